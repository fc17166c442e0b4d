/- Part Pah of the proof of ButtBack: lemmas. -/
import Derived.Test.YthgephlghkjiaaaGreatDoorProg
import Derived.Test.YthgephlghkjiaaaGreatDoorPag
set_option maxRecDepth 100000
set_option maxHeartbeats 4000000
set_option linter.all false
namespace Go.Nk
noncomputable section
open Go Go.Conc Go.Proofs
section
variable{ρ bA:bq}
mutual
theorem bw.fn{v bQ ZU:Value}(h:bw ρ v bQ)(k:bw ρ v ZU):bQ=ZU:=by
 cases h with
 | bool b=>cases k;rfl
 | int j n=>cases k;rfl
 | string s=>cases k;rfl
 | O8=>cases k;rfl
 | ptr o e=>cases k with|ptr o e'=>rw [e] at e';cases e';rfl
 | vS n c=>cases k;rfl
 | sl o n m e=>cases k with|sl o n m e'=>rw [e] at e';cases e';rfl
 | O9=>cases k;rfl
 | map e=>cases k with|map e'=>rw [e] at e';cases e';rfl
 | func f a b=>cases k with|func f fh b9=>rw [cV.fn a fh,cV.fn b b9]
 | nilFunc=>cases k;rfl
 | iface t a=>cases k with|iface t fh=>rw [bw.fn a fh]
 | nilIface=>cases k;rfl
 | agg a=>cases k with|agg fh=>rw [cV.fn a fh]
 | tuple a=>cases k with|tuple fh=>rw [cV.fn a fh]
theorem cV.fn{l dG ZV:List Value}(h:cV ρ l dG)(k:cV ρ l ZV):dG=ZV:=by
 cases h with
 | nil=>cases k;rfl
 | cons a b=>cases k with|cons fh b9=>rw [bw.fn a fh,cV.fn b b9]
end
theorem mm.fn:∀{l:List (Value×Value×Nat)} {m dR:List MapEntry},mm ρ l m->mm ρ l dR->m=dR
 | [],[],[],_,_=>rfl
 | (k,v,n)::l,⟨a,b,c⟩::m,⟨fh,b9,b2⟩::dR,⟨h1,h2,h3,h4⟩,⟨k1,bX,eL,e8⟩=>by
  simp only at h1 h2 h3 k1 bX eL;rw [bw.fn h1 k1,bw.fn h2 bX,h3,eL,mm.fn h4 e8]
 | [],_::_,_,h,_=>h.elim
 | [],[],_::_,_,h=>h.elim
 | _::_,[],_,h,_=>h.elim
 | _::_,_::_,[],_,h=>h.elim
theorem Bk.level{P:Program}(le:ρ.aD bA){k:Nat}{x:cn}{o aO:Option eI}(h:Bk P bA k x aO)(q:Bk P ρ k x o):Bk P ρ k x aO:=by
 cases x with
 | dead=>trivial
 | cs own lo t c=>
  obtain ⟨arr,fr,b2,rest,h1,h2,h3,h4,h5⟩:=h;obtain ⟨vy,YS,c2,apO,an,az,aB,aX,cp⟩:=q;have:b2=c2:=cV.fn h4 (aX.mono le);subst this;exact ⟨arr,fr,b2,rest,h1,h2,h3,aX,h5⟩
 | mp own es ck=>
  obtain ⟨nC,fr,h1,h2,h3⟩:=h;obtain ⟨apP,YS,an,az,aB⟩:=q;have:nC.toList=apP.toList:=mm.fn h3 (aB.mono le);exact ⟨nC,fr,h1,h2,by rw [this];exact aB⟩
end
def bq.iM(ρ:bq)(m:Nat):bq:=fun c=>if c<m then ρ c else none
theorem bq.sd(ρ:bq)(m:Nat):(ρ.iM m).aD ρ:=fun c x h=>by unfold bq.iM at h;split at h;exact h;cases h
theorem bq.E3(ρ:bq){m dR:Nat}(h:m<=dR):(ρ.iM m).aD (ρ.iM dR):=fun c x aa=>by
 unfold bq.iM at aa ⊢;split at aa
 ·rw [if_pos (by omega)];exact aa
 ·cases aa
theorem bq.q2{ρ:bq}{m c:Nat}(h:c<m):ρ.iM m c=ρ c:=by simp [bq.iM,h]
theorem bq.MJ{ρ:bq}{m c:Nat}(h:m<=c):ρ.iM m c=none:=by simp [bq.iM,Nat.not_lt.2 h]
theorem bq.Lb{ρ bA:bq}(h:ρ.aD bA)(m:Nat):(ρ.iM m).aD (bA.iM m):=fun c x aa=>by
 unfold bq.iM at aa ⊢;split at aa
 ·rename_i hc;rw [if_pos hc];exact h c x aa
 ·cases aa
theorem KH{α:Type}{f:Nat->α->Bool}:∀(l:List α) (i:Nat),allI f i l=true->∀j a,l[j]? =some a->f (i+j) a=true
 | [],i,_,j,a,h=>by simp at h
 | b::l,i,af,j,a,h=>by
  simp only [allI,Bool.and_eq_true] at af;cases j with
  | zero=>simp at h;subst h;exact af.1
  | succ j=>
   have:=KH l (i+1) af.2 j a (by simpa using h);rw [show i+(j+1)=i+1+j by omega];exact this
theorem Td{t:Nat}:∀{l:List Operand},Operand.tmp t∈l->t∈tmpsOf l
 | [],h=>by cases h
 | a::l,h=>by
  rcases List.mem_cons.1 h with e|e
  ·subst e;simp [tmpsOf]
  ·have:=Td e;cases a<;>simp only [tmpsOf,List.mem_cons]<;>first|exact .inr this|exact this
section
variable(P:Program)(call:FuncId->List Value->aL->Option (Value×aL))(ops:Array Oper)(cz:List (Nat×Nat))(bj:Nat)(E:cJ)(H:aL)(fI:bq)(h0:ab)(e0:Env)
structure nR(bef:List Nat)(dV:Nat->cJ)(a6:Nat->aL):Prop where
 uS:dV 0=E
 l8:a6 0=H
 oy:cD P bj fI H.get H.ar h0
 avf:bj<=H.ar
 aAY:l6 fI E e0
 can:r8 call
 step:∀(j:Nat) (o:Oper),ops[j]? =some o->DStep P call ops bef cz dV a6 j o
 ZW:∀(j:Nat) (o:Oper),ops[j]? =some o->∀x∈(e9 P ops o).op.dq,vn bj x=true
 bit:∀i k,i<ops.size->i<=k->Nat.testBit (gA bef i) k=false
 two:∀(i k:Nat) (o aO:Oper) (t:Nat),ops[i]? =some o->ops[k]? =some aO->i≠k->aO.dst=some t->o.dst≠some t/\(t∈(e9 P ops o).reads->Nat.testBit (gA bef i) k=true\/Nat.testBit (gA bef k) i=true)
 own:∀(i:Nat) (o:Oper) (t:Nat),ops[i]? =some o->o.dst=some t->t∉(e9 P ops o).reads/\∀k w,(k,w)∈cz->w≠t
 len:bef.length=ops.size
end
section
variable{P:Program}{call:FuncId->List Value->aL->Option (Value×aL)}{ops:Array Oper}{bef:List Nat}{cz:List (Nat×Nat)}{bj:Nat}{E:cJ}{H:aL}{fI:bq}{h0:ab}{e0:Env}{dV:Nat->cJ}{a6:Nat->aL}
theorem nR.none(R:nR P call ops cz bj E H fI h0 e0 bef dV a6):∀j,j<=ops.size->(∀c,(a6 j).ar<=c->(a6 j).get c=none)/\Can H (a6 j)
 | 0,_=>by
  rw [R.l8];refine ⟨fun c hc=> ?_,.refl _⟩;cases aG:H.get c with
  | none=>rfl
  | some x=>obtain ⟨b,k,h1,_⟩:=R.oy.blk c x aG;rw [R.oy.ek c hc] at h1;cases h1
 | j+1,ae=>by
  obtain ⟨db,c1⟩:=R.none j (by omega);have aQ:ops[j]? =some ops[j]:=Array.getElem?_eq_getElem (by omega);obtain ⟨V,v,H1,a1,a2,a3,a4,a5,eK,eV,fJ,a9⟩:=R.step j _ aQ;have lQ:Can V H1:=by
   rcases eV with ⟨_,h⟩|⟨_,_,h⟩
   ·exact vd R.can h
   ·rw [h];exact .refl _
  have zU:Can (a6 j) (a6 (j+1)):=by
   rw [a9];exact E1 a1 a2 a5 (eK.elim And.right fun q=>Nat.le_of_eq q.1.symm) lQ
  refine ⟨fun c hc=> ?_,c1.trans zU⟩;have AL:=zU.ar;have hold:=db c (by omega);rw [aL.get_eq,zU.bZ,zU.can c (.inr hc) (fun hw=>by obtain ⟨_,x,aa,_⟩:=hw;rw [hold] at aa;cases aa),<- aL.get_eq];exact hold
theorem nR.X1(R:nR P call ops cz bj E H fI h0 e0 bef dV a6){j:Nat}(ae:j<ops.size):Can (a6 j) (a6 (j+1)):=by
 have aQ:ops[j]? =some ops[j]:=Array.getElem?_eq_getElem ae;obtain ⟨V,v,H1,a1,a2,a3,a4,a5,eK,eV,fJ,a9⟩:=R.step j _ aQ;have lQ:Can V H1:=by
  rcases eV with ⟨_,h⟩|⟨_,_,h⟩
  ·exact vd R.can h
  ·rw [h];exact .refl _
 rw [a9];exact E1 a1 a2 a5 (eK.elim And.right fun q=>Nat.le_of_eq q.1.symm) lQ
theorem nR.po(R:nR P call ops cz bj E H fI h0 e0 bef dV a6):∀{i j:Nat},i<=j->j<=ops.size->(a6 i).ar<=(a6 j).ar:=by
 intro i j m2 ae
 induction j with
 | zero=>
      have:i=0:=by omega
      subst this;exact Nat.le_refl _
 | succ j aN=>
  rcases Nat.lt_or_ge i (j+1) with h|h
  ·exact Nat.le_trans (aN (by omega) (by omega)) (R.X1 (by omega)).ar
  ·have:i=j+1:=by omega
   subst this;exact Nat.le_refl _
def jY(a6:Nat->aL)(k c:Nat):Prop:=(a6 (k+1)).get c≠(a6 k).get c
theorem nR.meet(R:nR P call ops cz bj E H fI h0 e0 bef dV a6){i k c:Nat}(hi:i<ops.size)(hk:k<ops.size)(b7:i≠k)(h1:Nat.testBit (gA bef i) k=false)(h2:Nat.testBit (gA bef k) i=false)(aj:jY a6 k c)
  {V:aL} (rA:V.ar=(a6 i).ar) (C6:V.t=(a6 i).t) (P7:∀c,c<(a6 i).ar->dg V.bZ c=false->dg (a6 i).bZ c=false/\(∀k,k<i->Nat.testBit (gA bef i) k=false->¬((a6 k).ar<=c/\c<(a6 (k+1)).ar))/\(∀k w,(k,w)∈cz->apart bef i k=true->nW ((dV i).rd w)≠some c))
  (Im:∀c,dg V.bZ c=false->dg (a6 i).bZ c=false):V.get c=Option.none:=by
 cases aG:V.get c with
 | none=>rfl
 | some x=>
  exfalso;obtain ⟨g1,g2⟩:=aL.get_some aG;have ZX:(a6 i).get c=some x:=by rw [aL.get_eq,Im c g1,<- C6,g2];rfl
  have AM:c<(a6 i).ar:=Nat.lt_of_not_le fun iI=>by rw [(R.none i (by omega)).1 c iI] at ZX;cases ZX
  obtain ⟨v1,v2,v3⟩:=P7 c AM g1;have cW:ops[k]? =some ops[k]:=Array.getElem?_eq_getElem hk;obtain ⟨W,w,H1,a1,a2,a3,a4,a5,eK,eV,fJ,a9⟩:=R.step k _ cW;rcases eK with eK|⟨eK,avg⟩
  ·
   obtain ⟨eK,_⟩:=eK;have iI:(a6 k).ar<=c:=Nat.le_of_not_lt fun bY=>aj (by
    have lQ:Can W H1:=by
     rcases eV with ⟨_,h⟩|⟨_,_,h⟩
     ·exact vd R.can h
     ·rw [h];exact .refl _
    have:H1.t.get c=W.t.get c:=lQ.can c (.inl (by rw [a2];exact bY)) (fun hw=>by have:=hw.1;omega);rw [a9,aL.get_eq,aL.get_eq];show (if dg (a6 k).bZ c=true then Option.none else H1.t.get c)=_;rw [this,a1])
   rcases Nat.lt_or_ge k i with nG|nG
   ·refine v2 k nG h1 ⟨iI,Nat.lt_of_not_le fun asB=>aj ?_⟩;rw [(R.none (k+1) (by omega)).1 c asB,(R.none k (by omega)).1 c iI]
   ·have:=R.po (i:=i) (j:=k) (by omega) (by omega);omega
  ·rcases avg with af|⟨u,hu,cj⟩
   ·
    unfold tw at af;simp only [Bool.and_eq_true] at af;rcases Nat.lt_or_ge i k with uk|uk
    ·have aP:gA bef k=full k:=beq_eq af.1;rw [aP,full,Nat.testBit_two_pow_sub_one] at h2;simp [uk] at h2
    ·have:=List.all_eq_true.1 af.2;rw [wS] at this;have ZY:i<bef.length:=by rw [R.len];exact hi
     have jJ:bef[i]∈bef.drop (k+1):=by
      rw [List.mem_iff_getElem?];refine ⟨i- (k+1),?_⟩;rw [List.getElem?_drop,show k+1+(i- (k+1))=i by omega,List.getElem?_eq_getElem ZY]
     have hb:=this _ jJ;have:gA bef i=bef[i]:=by simp [gA,sb,List.getElem?_eq_getElem ZY]
     rw [this,hb] at h1;cases h1
   ·
    have P8:apart bef i k=true:=by
     unfold apart;have e1:(nth bef i).getD 0=gA bef i:=rfl;have e2:(nth bef k).getD 0=gA bef k:=rfl;rw [e1,e2,h1,h2];have:Nat.beq i k=false:=by cases hb:Nat.beq i k with|false=>rfl|true=>exact absurd (beq_eq hb) b7
     rw [this];rfl
    have vl:∀j,j<=ops.size->(dV j).rd u=E.rd u:=by
     intro j
     induction j with
     | zero=>intro _;rw [R.uS]
     | succ j aN=>
      intro ae;have C7:ops[j]? =some ops[j]:=Array.getElem?_eq_getElem (by omega);obtain ⟨_,_,_,_,_,_,_,_,_,_,DY,_⟩:=R.step j _ C7;rw [DY];cases hd:(ops[j]).dst with
      | none=>exact aN (by omega)
      | some t=>
       rw [BT,if_neg ((R.own j _ t C7 hd).2 k u hu)];exact aN (by omega)
    rcases eV with ⟨_,aF⟩|⟨_,_,h⟩
    ·unfold w7 at cj;split at cj
     ·rename_i n y z heq;rw [heq] at aF;split at cj
      ·rename_i p q aK aE;have:=beq_eq cj;subst this;simp only [cA] at aF;split at aF
       ·rename_i B o ax;rw [ax] at aK;cases aK;obtain ⟨_,aF⟩:=kh aF;obtain ⟨Jo,aF,_⟩:=xk aF;cases aF;have P9:c=p:=Classical.byContradiction fun P9=>aj (by
         rw [a9,aL.get_eq,aL.get_eq];show (if dg (a6 k).bZ c=true then Option.none else (W.set p Jo).t.get c)=_;rw [aL.wT,if_neg P9,a1])
        subst P9;refine v3 k u hu P8 ?_;rw [vl i (by omega),<- vl k (by omega)];exact aE
       ·cases aF
      ·cases cj
     ·cases cj
    ·refine aj ?_;rw [a9,h,aL.get_eq,aL.get_eq];show (if dg (a6 k).bZ c=true then Option.none else W.t.get c)=_;rw [a1]
end
open Classical in
def bk(a6:Nat->aL)(D:Nat->Bool):Nat->Nat->Option cn×Nat
 | 0,c=>((a6 0).get c,(a6 0).ar)
 | k+1,c=>cond (D k) (if jY a6 k c then ((a6 (k+1)).get c,(a6 (k+1)).ar) else bk a6 D k c) (bk a6 D k c)
theorem w9{a6:Nat->aL}{D:Nat->Bool}{k c:Nat}(h1:D k=true)(h2:jY a6 k c):bk a6 D (k+1) c=((a6 (k+1)).get c,(a6 (k+1)).ar):=by
 rw [bk,h1,cond_true,if_pos h2]
theorem q3{a6:Nat->aL}{D:Nat->Bool}{k c:Nat}(h:¬(D k=true/\jY a6 k c)):bk a6 D (k+1) c=bk a6 D k c:=by
 rw [bk];cases hd:D k with
 | false=>rfl
 | true=>rw [cond_true,if_neg (fun aj=>h ⟨hd,aj⟩)]
section
variable{P:Program}{call:FuncId->List Value->aL->Option (Value×aL)}{ops:Array Oper}{bef:List Nat}{cz:List (Nat×Nat)}{bj:Nat}{E:cJ}{H:aL}{fI:bq}{h0:ab}{e0:Env}{dV:Nat->cJ}{a6:Nat->aL}{D:Nat->Bool}
structure uT(P:Program)(ops:Array Oper)(bef:List Nat)(bj:Nat)(E:cJ)(H:aL)(fI:bq)(h0:ab)(dV:Nat->cJ)(a6:Nat->aL)(D:Nat->Bool)(ρ:bq)(e:Env)(h:ab):Prop where
 le:fI.aD ρ
 old:∀c,c<H.ar->ρ c=fI c
 Hz:∀t,(∀k o,ops[k]? =some o->D k=true->o.dst≠some t)->bw fI (E.rd t) (e t)
 HA:∀k o t,ops[k]? =some o->D k=true->o.dst=some t->bw (ρ.iM (a6 (k+1)).ar) ((dV (k+1)).rd t) (e t)
 blk:∀c x m,bk a6 D ops.size c=(some x,m)->∃b kk,ρ.iM m c=some (b,kk)/\Bk P (ρ.iM m) kk x (h b)
 inj:∀c d x y m dR b k k',bk a6 D ops.size c=(some x,m)->bk a6 D ops.size d=(some y,dR)->x.live=true->y.live=true->ρ c=some (b,k)->ρ d=some (b,k')->c=d
 ek:∀c,H.ar<=c->ρ c≠none->∃k,k<ops.size/\D k=true/\(a6 k).ar<=c/\c<(a6 (k+1)).ar
 mq:∀b x,h0 b=some x->(∀c k,gH H c->fI c≠some (b,k))->h b=some x
 lW:∀c x m b k,bk a6 D ops.size c=(some x,m)->H.ar<=c->x.live=true->ρ c=some (b,k)->h0 b=none\/∃dK k0,gH H dK/\fI dK=some (b,k0)
 closed:∀k,k<ops.size->D k=true->∀j,Nat.testBit (gA bef k) j=true->D j=true
theorem W0(R:nR P call ops cz bj E H fI h0 e0 bef dV a6){i c:Nat}(hi:i<ops.size):
  (¬jY a6 i c->bk a6 (fun j=>if j=i then true else D j) ops.size c=bk a6 D ops.size c)/\
  (jY a6 i c->(∀k,i<k->k<ops.size->D k=true->¬jY a6 k c)->bk a6 (fun j=>if j=i then true else D j) ops.size c=((a6 (i+1)).get c,(a6 (i+1)).ar)):=by
 refine ⟨fun ao=> ?_,fun aj hg=> ?_⟩
 ·have:∀m,bk a6 (fun j=>if j=i then true else D j) m c=bk a6 D m c:=by
   intro m
   induction m with
   | zero=>rfl
   | succ m aN=>
    by_cases hm:m=i
    ·subst hm;rw [q3 (fun h=>ao h.2),q3 (fun h=>ao h.2)];exact aN
    ·have e:(fun j=>if j=i then true else D j) m=D m:=if_neg hm;by_cases hc:D m=true/\jY a6 m c
     ·rw [w9 (e.trans hc.1) hc.2,w9 hc.1 hc.2]
     ·rw [q3 (fun h=>hc ⟨e.symm.trans h.1,h.2⟩),q3 hc];exact aN
  exact this _
 ·have:∀m,i+1+m<=ops.size->bk a6 (fun j=>if j=i then true else D j) (i+1+m) c=((a6 (i+1)).get c,(a6 (i+1)).ar):=by
   intro m
   induction m with
   | zero=>intro _;rw [Nat.add_zero];exact w9 (by simp) aj
   | succ m aN=>
    intro hm;have e:(fun j=>if j=i then true else D j) (i+1+m)=D (i+1+m):=if_neg (by omega);rw [show i+1+(m+1)=(i+1+m)+1 by omega,q3 (fun h=>hg (i+1+m) (by omega) (by omega) (e.symm.trans h.1) h.2)];exact aN (by omega)
  have h1:=this (ops.size- (i+1)) (by omega);rw [show i+1+(ops.size- (i+1))=ops.size by omega] at h1;exact h1
theorem akq(R:nR P call ops cz bj E H fI h0 e0 bef dV a6){i c:Nat}(hi:i<ops.size)(ao:∀k,k<ops.size->D k=true->i<=k->¬jY a6 k c)(hb:∀k,k<i->D k=false->¬jY a6 k c):
  ∃m,m<=(a6 i).ar/\bk a6 D ops.size c=((a6 i).get c,m):=by
 have low:∀j,j<=i->∃m,m<=(a6 j).ar/\bk a6 D j c=((a6 j).get c,m):=by
  intro j
  induction j with
  | zero=>intro _;exact ⟨_,Nat.le_refl _,rfl⟩
  | succ j aN=>
   intro ae;obtain ⟨m,h1,h2⟩:=aN (by omega);by_cases hc:D j=true/\jY a6 j c
   ·rw [w9 hc.1 hc.2];exact ⟨_,Nat.le_refl _,rfl⟩
   ·rw [q3 hc,h2];have tY:¬jY a6 j c:=fun aj=>by
     cases hd:D j with
     | true=>exact hc ⟨hd,aj⟩
     | false=>exact hb j (by omega) hd aj
    refine ⟨m,Nat.le_trans h1 (R.po (by omega) (by omega)),?_⟩;have:(a6 (j+1)).get c=(a6 j).get c:=Classical.byContradiction tY;rw [this]
 obtain ⟨m,h1,h2⟩:=low i (Nat.le_refl _);refine ⟨m,h1,?_⟩;have up:∀q,i+q<=ops.size->bk a6 D (i+q) c=bk a6 D i c:=by
  intro q
  induction q with
  | zero=>intro _;rfl
  | succ q aN=>
   intro aE;rw [show i+(q+1)=(i+q)+1 by omega,q3 (fun h=>ao (i+q) (by omega) h.1 (by omega) h.2)];exact aN (by omega)
 have:=up (ops.size- i) (by omega);rw [show i+(ops.size- i)=ops.size by omega] at this;rw [this];exact h2
theorem uT.next(R:nR P call ops cz bj E H fI h0 e0 bef dV a6){ρ:bq}{e:Env}{h:ab}(I:uT P ops bef bj E H fI h0 dV a6 D ρ e h){i:Nat}{o:Oper}(aQ:ops[i]? =some o)(hi:i<ops.size)(iv:D i=false)(kV:∀j,Nat.testBit (gA bef i) j=true->D j=true)
  {V H1:aL} {v:Value} (C6:V.t=(a6 i).t) (rA:V.ar=(a6 i).ar) (P7:∀c,c<(a6 i).ar->dg V.bZ c=false->dg (a6 i).bZ c=false/\(∀k,k<i->Nat.testBit (gA bef i) k=false->¬((a6 k).ar<=c/\c<(a6 (k+1)).ar))/\(∀k w,(k,w)∈cz->apart bef i k=true->nW ((dV i).rd w)≠some c))
  (Qa:∀c,(a6 i).ar<=c->dg V.bZ c=true->dg (a6 i).bZ c=true) (Im:∀c,dg V.bZ c=false->dg (a6 i).bZ c=false) (avh:(a6 i).ar<=V.cg\/V.cg=(a6 i).cg) (lQ:Can V H1)
  (P6:dV (i+1)=(dV i).put o.dst v) (AK:a6 (i+1)= {H1 with cg:=(a6 i).cg,bZ:=(a6 i).bZ}):
  cD P bj (ρ.iM (a6 i).ar) V.get V.ar h/\
  ∀(bA:bq) (h':ab) (bQ:Value),cD P bj bA H1.get H1.ar h'->bw bA v bQ->gu V (ρ.iM (a6 i).ar) h H1 bA h'->∃oV,uT P ops bef bj E H fI h0 dV a6 (fun j=>if j=i then true else D j) oV (cv e o.dst bQ) h':=by
 have W1:∀k,k<ops.size->D k=true->k≠i->Nat.testBit (gA bef k) i=false:=fun k hk hd b7=>by
  cases hb:Nat.testBit (gA bef k) i with
  | false=>rfl
  | true=>have:=I.closed k hk hd i hb;rw [iv] at this;cases this
 have Ca:∀c x,V.get c=some x->(a6 i).get c=some x:=fun c x hc=>by
  obtain ⟨g1,g2⟩:=aL.get_some hc;rw [aL.get_eq,Im c g1,<- C6,g2];rfl
 have rh:∀c x,V.get c=some x->c<(a6 i).ar:=fun c x hc=>Nat.lt_of_not_le fun iI=>by
  have:=Ca c x hc;rw [(R.none i (by omega)).1 c iI] at this;cases this
 have Ol:∀k c,k<ops.size->k≠i->(D k=true\/k<i)->Nat.testBit (gA bef i) k=false->jY a6 k c->V.get c=none:=fun k c hk b7 hd hb aj=>by
  have h2:Nat.testBit (gA bef k) i=false:=by
   rcases hd with hd|hd
   ·exact W1 k hk hd b7
   ·exact R.bit k i hk (by omega)
  exact R.meet hi hk (Ne.symm b7) hb h2 aj rA C6 P7 Im
 have view:∀c x,V.get c=some x->∃m,m<=(a6 i).ar/\bk a6 D ops.size c=(some x,m):=fun c x hc=>by
  have:=akq (D:=D) R hi (c:=c) (fun k hk hd uk aj=>by
   have b7:k≠i:=fun e'=>by subst e';rw [iv] at hd;cases hd
   have:=Ol k c hk b7 (.inl hd) (R.bit i k hi uk) aj;rw [hc] at this;cases this) (fun k hk hd aj=>by
   have hb:Nat.testBit (gA bef i) k=false:=by
    cases hb:Nat.testBit (gA bef i) k with
    | false=>rfl
    | true=>have:=kV k hb;rw [hd] at this;cases this
   have:=Ol k c (by omega) (by omega) (.inr hk) hb aj;rw [hc] at this;cases this)
  rw [Ca c x hc] at this;exact this
 have aAH:(a6 i).ar<=(a6 (i+1)).ar:=(R.X1 hi).ar;have aAI:H.ar<=(a6 i).ar:=by have:=R.po (i:=0) (j:=i) (by omega) (by omega);rw [R.l8] at this;exact this
 have Ai:cD P bj (ρ.iM (a6 i).ar) V.get V.ar h:=by
  refine ⟨fun c x hc=> ?_,fun c d x y b k k' hc hd aa ax h1 h2=> ?_,fun c hc=> ?_,fun g aG=> ?_⟩
  ·obtain ⟨m,hm,aG⟩:=view c x hc;obtain ⟨b,kk,h1,h2⟩:=I.blk c x m aG;exact ⟨b,kk,bq.E3 ρ hm _ _ h1,h2.mono (bq.E3 ρ hm)⟩
  ·obtain ⟨m,_,aG⟩:=view c x hc;obtain ⟨dR,_,iN⟩:=view d y hd;exact I.inj c d x y m dR b k k' aG iN aa ax (bq.sd _ _ _ _ h1) (bq.sd _ _ _ _ h2)
  ·rw [rA] at hc;exact bq.MJ hc
  ·have avi:=R.oy.sn g aG;have:g<H.ar:=Nat.lt_of_lt_of_le aG R.avf;rw [bq.q2 (by omega),I.old g this];exact avi
 refine ⟨Ai,fun bA h' bQ o5 aI F=> ?_⟩;have YT:H1.ar=(a6 (i+1)).ar:=by rw [AK]
 obtain ⟨oV,YU⟩:∃oV:bq,oV=fun c=>if (a6 i).ar<=c/\c<(a6 (i+1)).ar then bA c else ρ c:=⟨_,rfl⟩
 refine ⟨oV,?_⟩;have apQ:∀c,(a6 i).ar<=c->c<(a6 (i+1)).ar->oV c=bA c:=fun c h1 h2=>by rw [YU];simp [h1,h2]
 have vh:∀c,¬((a6 i).ar<=c/\c<(a6 (i+1)).ar)->oV c=ρ c:=fun c h1=>by rw [YU];exact if_neg h1
 have free:∀c,(a6 i).ar<=c->c<(a6 (i+1)).ar->ρ c=none:=fun c h1 h2=>by
  cases hc:ρ c with
  | none=>rfl
  | some z=>
   exfalso;obtain ⟨k,hk,hd,h3,h4⟩:=I.ek c (by omega) (by rw [hc];simp);rcases Nat.lt_trichotomy k i with nG|nG|nG
   ·have:=R.po (i:=k+1) (j:=i) (by omega) (by omega);omega
   ·subst nG;rw [iv] at hd;cases hd
   ·have:=R.po (i:=i+1) (j:=k) (by omega) (by omega);omega
 have AN:ρ.aD oV:=fun c z hc=>by
  by_cases dF:(a6 i).ar<=c/\c<(a6 (i+1)).ar
  ·rw [free c dF.1 dF.2] at hc;cases hc
  ·rw [vh c dF];exact hc
 have Cm:∀c,bA c=oV.iM (a6 (i+1)).ar c:=fun c=>by
  rcases Nat.lt_or_ge c (a6 (i+1)).ar with hc|hc
  ·rw [bq.q2 hc];rcases Nat.lt_or_ge c (a6 i).ar with AM|AM
   ·rw [vh c (by omega),F.old c (by rw [rA];exact AM),bq.q2 AM]
   ·rw [apQ c AM hc]
  ·rw [bq.MJ hc];exact o5.ek c (by rw [YT];exact hc)
 have Om:bA=oV.iM (a6 (i+1)).ar:=funext Cm;have On:∀c x,(a6 (i+1)).get c=some x->(dg V.bZ c=false)->H1.get c=some x:=fun c x hc aI=>by
  have:dg H1.bZ c=false:=by rw [lQ.bZ];exact aI
  rw [AK] at hc;obtain ⟨_,g2⟩:=aL.get_some hc;rw [aL.get_eq,this];exact g2
 have touch:∀c,jY a6 i c->((a6 i).ar<=c/\c<(a6 (i+1)).ar)\/(c<(a6 i).ar/\∃x,V.get c=some x/\x.live=true/\V.cg<=c):=fun c aj=>by
  by_cases dF:(a6 i).ar<=c/\c<(a6 (i+1)).ar
  ·exact .inl dF
  ·right;have hw:gH V c:=Classical.byContradiction fun avj=>aj (by
    have:=lQ.can c (by rw [rA,YT];omega) avj;rw [AK,aL.get_eq,aL.get_eq];show (if dg (a6 i).bZ c=true then none else H1.t.get c)=_;rw [this,C6])
   obtain ⟨h1,x,h2,h3⟩:=hw;exact ⟨rh c x h2,x,h2,h3,h1⟩
 have later:∀c,jY a6 i c->∀k,i<k->k<ops.size->D k=true->¬jY a6 k c:=fun c aj k uk hk hd eD=>by
  have ZZ:=R.bit i k hi (by omega);rcases touch c aj with ⟨h1,h2⟩|⟨_,x,aa,_,_⟩
  ·
   have cW:ops[k]? =some ops[k]:=Array.getElem?_eq_getElem hk;obtain ⟨W,w,yA,a1,a2,a3,a4,a5,eK,eV,fJ,a9⟩:=R.step k _ cW;have apR:Can W yA:=by
    rcases eV with ⟨_,hh⟩|⟨_,_,hh⟩
    ·exact vd R.can hh
    ·rw [hh];exact .refl _
   have hm:=R.po (i:=i+1) (j:=k) (by omega) (by omega);refine eD ?_;have:yA.t.get c=W.t.get c:=apR.can c (.inl (by rw [a2];omega)) fun hw=>by
    obtain ⟨_,x,aa,_⟩:=hw;obtain ⟨g1,g2⟩:=aL.get_some aa;exact (a3 c (by omega) g1).2.1 i uk (W1 k hk hd (by omega)) ⟨h1,h2⟩
   rw [a9,aL.get_eq,aL.get_eq];show (if dg (a6 k).bZ c=true then none else yA.t.get c)=_;rw [this,a1]
  ·have:=Ol k c hk (by omega) (.inl hd) ZZ eD;rw [aa] at this;cases this
 have after:∀c x m,bk a6 (fun j=>if j=i then true else D j) ops.size c=(some x,m)->(jY a6 i c/\(a6 (i+1)).get c=some x/\m=(a6 (i+1)).ar/\H1.get c=some x/\c<(a6 (i+1)).ar)\/(¬jY a6 i c/\bk a6 D ops.size c=(some x,m)/\¬((a6 i).ar<=c/\c<(a6 (i+1)).ar)):=fun c x m aG=>by
  by_cases aj:jY a6 i c
  ·left;rw [(W0 R hi).2 aj (later c aj)] at aG;simp only [Prod.mk.injEq] at aG;have asC:dg V.bZ c=false:=by
    rcases touch c aj with ⟨h1,h2⟩|⟨_,y,ax,_,_⟩
    ·cases hh:dg V.bZ c with
     | false=>rfl
     | true=>
      have h3:=Qa c h1 hh;rw [AK] at aG;obtain ⟨g1,_⟩:=aL.get_some aG.1;have:dg (a6 i).bZ c=false:=g1;rw [h3] at this;cases this
    ·exact (aL.get_some ax).1
   refine ⟨aj,aG.1,aG.2.symm,On c x aG.1 asC,?_⟩;rcases touch c aj with ⟨_,h2⟩|⟨h2,_⟩<;>omega
  ·right;rw [(W0 R hi).1 aj] at aG;refine ⟨aj,aG,fun dF=> ?_⟩;obtain ⟨b,kk,h1,_⟩:=I.blk c x m aG;have:=bq.sd _ _ _ _ h1;rw [free c dF.1 dF.2] at this;cases this
 have Pe:∀c x m b k,bk a6 D ops.size c=(some x,m)->x.live=true->ρ c=some (b,k)->V.get c=none->∀dK k0,gH V dK->(ρ.iM (a6 i).ar) dK≠some (b,k0):=fun c x m b k aG af al aI dK k0 hw vT=>by
  obtain ⟨_,y,ax,ug⟩:=hw;obtain ⟨m0,_,um⟩:=view dK y ax;have:=I.inj dK c y x m0 m b k0 k um aG ug af (bq.sd _ _ _ _ vT) al;subst this;rw [aI] at ax;cases ax
 have Pf:∀dK b k0,gH V dK->(ρ.iM (a6 i).ar) dK=some (b,k0)->h0 b=none\/∃c1 k1,gH H c1/\fI c1=some (b,k1):=fun dK b k0 hw al=>by
  have eu:=bq.sd _ _ _ _ al;obtain ⟨af,y,ax,ug⟩:=hw;obtain ⟨m0,_,um⟩:=view dK y ax;rcases Nat.lt_or_ge dK H.ar with hc|hc
  ·right;refine ⟨dK,k0,?_,by rw [<- I.old dK hc];exact eu⟩;refine gH.can (R.none i (by omega)).2 hc ⟨?_,y,Ca dK y ax,ug⟩;rcases avh with e'|e'
   ·omega
   ·rw [<- e'];exact af
  ·exact I.lW dK y m0 b k0 um hc ug eu
 refine ⟨I.le.trans AN,fun c hc=>by rw [vh c (by omega)];exact I.old c hc,fun t aj=> ?_,fun k aO t hk hd vz=> ?_,fun c x m aG=> ?_,fun c d x y m dR b k k' aG iN aa ax h1 h2=> ?_,fun c hc al=> ?_,fun b x hb hg=> ?_,fun c x m b k aG hc af al=> ?_,fun k hk hd j ae=> ?_⟩
 ·
  have b7:o.dst≠some t:=aj i o aQ (by simp);have:cv e o.dst bQ t=e t:=by
   cases Qb:o.dst with
   | none=>rfl
   | some u=>
    rw [cM,aZ,if_neg (fun e'=>b7 (by rw [Qb,e']))]
  rw [this];refine I.Hz t fun k aO hk hd=>aj k aO hk ?_;split<;>first|rfl|exact hd
 ·by_cases nG:k=i
  ·subst nG;rw [aQ] at hk;cases hk;have e1:cv e o.dst bQ t=bQ:=by rw [vz,cM,aZ,if_pos rfl]
   have e2:(dV (k+1)).rd t=v:=by rw [P6,vz,BT,if_pos rfl]
   rw [e1,e2,<- Om];exact aI
  ·have fo:D k=true:=by simpa [nG] using hd
   have b7:o.dst≠some t:=(R.two i k o aO t aQ hk (Ne.symm nG) vz).1;have:cv e o.dst bQ t=e t:=by
    cases Qb:o.dst with
    | none=>rfl
    | some u=>rw [cM,aZ,if_neg (fun e'=>b7 (by rw [Qb,e']))]
   rw [this];exact (I.HA k aO t hk fo vz).mono (bq.Lb AN _)
 ·
  rcases after c x m aG with ⟨aj,uo,rfl,avk,bY⟩|⟨aj,uo,mT⟩
  ·obtain ⟨b,kk,h1,h2⟩:=o5.blk c x avk;rw [Om] at h1 h2;exact ⟨b,kk,h1,h2⟩
  ·obtain ⟨b,kk,h1,h2⟩:=I.blk c x m uo;have Z0:ρ c=some (b,kk):=bq.sd _ _ _ _ h1;have dy:oV.iM m c=some (b,kk):=bq.Lb AN _ _ _ h1;refine ⟨b,kk,dy,?_⟩;have oj:=h2.mono (bq.Lb AN m);cases aa:x.live with
   | false=>cases x<;>simp [cn.live] at aa;trivial
   | true=>
    cases mE:V.get c with
    | none=>
     obtain ⟨y,ax⟩:=h2.isSome aa;have:=F.mq b y ax (Pe c x m b kk uo aa Z0 mE);rw [this,<- ax];exact oj
    | some x'=>
     obtain ⟨dR,mr,iN⟩:=view c x' mE;rw [uo] at iN;simp only [Prod.mk.injEq,Option.some.injEq] at iN;obtain ⟨rfl,rfl⟩:=iN;have hZ:(a6 (i+1)).get c=some x:=by
      have:(a6 (i+1)).get c=(a6 i).get c:=Classical.byContradiction aj;rw [this];exact Ca c x mE
     obtain ⟨b9,k',an,az⟩:=o5.blk c x (On c x hZ (aL.get_some mE).1);have kV:c<(a6 i).ar:=rh c x mE;have:bA c=some (b,kk):=by rw [F.old c (by rw [rA];exact kV),bq.q2 kV];exact Z0
     rw [this] at an;cases an;rw [Om] at az;exact az.level (bq.E3 oV (by omega)) oj
 ·
  have one:∀c d x y m b k k',jY a6 i c->H1.get c=some x->c<(a6 (i+1)).ar->bk a6 D ops.size d=(some y,m)->¬jY a6 i d->¬((a6 i).ar<=d/\d<(a6 (i+1)).ar)->x.live=true->y.live=true->oV c=some (b,k)->oV d=some (b,k')->c=d:=by
   intro c d x y m b k k' aj aG bY hK avl mT aa ax h1 h2;have dy:bA c=some (b,k):=by rw [Cm c,bq.q2 bY];exact h1
   rw [vh d mT] at h2;cases mE:V.get d with
   | some c8=>
    obtain ⟨dR,_,iN⟩:=view d c8 mE;rw [hK] at iN;simp only [Prod.mk.injEq,Option.some.injEq] at iN;obtain ⟨rfl,_⟩:=iN;have Io:=rh d y mE;have hZ:(a6 (i+1)).get d=some y:=by
     have:(a6 (i+1)).get d=(a6 i).get d:=Classical.byContradiction avl;rw [this];exact Ca d y mE
    exact o5.inj c d x y b k k' aG (On d y hZ (aL.get_some mE).1) aa ax dy (by rw [F.old d (by rw [rA];exact Io),bq.q2 Io];exact h2)
   | none=>
    exfalso;rcases touch c aj with ⟨an,az⟩|⟨an,z,aH,vV,Pg⟩
    ·rcases F.lW c x b k aG (by rw [rA];exact an) aa dy with aB|⟨dK,k0,aB,aX⟩
     ·obtain ⟨bV,bX,cp,fw⟩:=I.blk d y m hK;have:=bq.sd _ _ _ _ cp;rw [h2] at this;cases this;obtain ⟨w,hw⟩:=fw.isSome ax;rw [aB] at hw;cases hw
     ·exact Pe d y m b k' hK ax h2 mE dK k0 aB aX
    ·have al:(ρ.iM (a6 i).ar) c=some (b,k):=by
      rw [<- F.old c (by rw [rA];exact an)];exact dy
     exact Pe d y m b k' hK ax h2 mE c k ⟨Pg,z,aH,vV⟩ al
  rcases after c x m aG with ⟨t1,_,_,g1,fg⟩|⟨t1,g1,o1⟩<;>rcases after d y dR iN with ⟨t2,_,_,g2,l3⟩|⟨t2,g2,o2⟩
  ·exact o5.inj c d x y b k k' g1 g2 aa ax (by rw [Cm c,bq.q2 fg];exact h1) (by rw [Cm d,bq.q2 l3];exact h2)
  ·exact one c d x y dR b k k' t1 g1 fg g2 t2 o2 aa ax h1 h2
  ·exact (one d c y x m b k' k t2 g2 l3 g1 t1 o1 ax aa h2 h1).symm
  ·rw [vh c o1] at h1;rw [vh d o2] at h2;exact I.inj c d x y m dR b k k' g1 g2 aa ax h1 h2
 ·by_cases dF:(a6 i).ar<=c/\c<(a6 (i+1)).ar
  ·exact ⟨i,hi,by simp,dF.1,dF.2⟩
  ·rw [vh c dF] at al;obtain ⟨k,hk,hd,h1,h2⟩:=I.ek c hc al;exact ⟨k,hk,by split<;>first|rfl|exact hd,h1,h2⟩
 ·refine F.mq b x (I.mq b x hb hg) fun dK k0 hw vT=> ?_;rcases Pf dK b k0 hw vT with q|⟨c1,k1,an,az⟩
  ·rw [hb] at q;cases q
  ·exact hg c1 k1 an az
 ·have out:∀b,h b=none->h0 b=none\/∃dK k0,gH H dK/\fI dK=some (b,k0):=fun b hb=>Classical.byContradiction fun hg=>by
   cases aa:h0 b with
   | none=>exact hg (.inl aa)
   | some y=>
    have:=I.mq b y aa fun dK k0 hw al=>hg (.inr ⟨dK,k0,hw,al⟩);rw [hb] at this;cases this
  rcases after c x m aG with ⟨t1,_,_,g1,fg⟩|⟨t1,g1,o1⟩
  ·have dy:bA c=some (b,k):=by rw [Cm c,bq.q2 fg];exact al
   rcases touch c t1 with ⟨an,az⟩|⟨an,z,aH,vV,Pg⟩
   ·rcases F.lW c x b k g1 (by rw [rA];exact an) af dy with aB|⟨dK,k0,aB,aX⟩
    ·exact out b aB
    ·exact Pf dK b k0 aB aX
   ·exact Pf c b k ⟨Pg,z,aH,vV⟩ (by rw [<- F.old c (by rw [rA];exact an)];exact dy)
  ·rw [vh c o1] at al;exact I.lW c x m b k g1 hc af al
 ·by_cases nG:k=i
  ·subst nG;have:=kV j ae;split<;>first|rfl|exact this
  ·have fo:D k=true:=by simpa [nG] using hd
   have:=I.closed k hk fo j ae;split<;>first|rfl|exact this
end
theorem SU:∀(l:List Oper) (acc:List Nat),(kP l acc).length=acc.length+l.length
 | [],acc=>by simp [kP]
 | o::l,acc=>by rw [kP,SU l];simp;omega
theorem JQ:∀(l:List Oper) (acc:List Nat) (j:Nat),j<acc.length->(kP l acc)[j]? =acc[j]?
 | [],acc,j,_=>by rw [kP]
 | o::l,acc,j,ae=>by rw [kP,JQ l _ j (by simp;omega),List.getElem?_append_left ae]
theorem KI{acc:List Nat}{j:Nat}:∀(l:List Edge) (s:Nat),Nat.testBit (vw acc l s) j=true->Nat.testBit s j=true\/∃x∈l,Region.binds .any x=true/\(x.on=j\/Nat.testBit ((nth acc x.on).getD 0) j=true)
 | [],s,h=>.inl h
 | x::l,s,h=>by
  simp only [vw] at h;cases hb:Region.binds .any x with
  | false=>
   rw [hb,cond_false] at h;rcases KI l s h with q|⟨y,ax,q⟩
   ·exact .inl q
   ·exact .inr ⟨y,List.mem_cons_of_mem _ ax,q⟩
  | true=>
   rw [hb,cond_true] at h;rcases KI l _ h with q|⟨y,ax,q⟩
   ·simp only [Nat.testBit_or,Bool.or_eq_true,Nat.testBit_two_pow,decide_eq_true_eq] at q;rcases q with q|q|q
    ·exact .inl q
    ·exact .inr ⟨x,List.mem_cons_self,hb,.inl q⟩
    ·exact .inr ⟨x,List.mem_cons_self,hb,.inr q⟩
   ·exact .inr ⟨y,List.mem_cons_of_mem _ ax,q⟩
theorem Uv:∀(l:List Oper) (acc:List Nat) (i:Nat) (o:Oper),nu acc.length l=true->l[i]? =some o->∀j,Nat.testBit (gA (kP l acc) (acc.length+i)) j=true->
  ∃x∈o.after,Region.binds .any x=true/\(x.on=j\/Nat.testBit (gA (kP l acc) x.on) j=true)
 | [],acc,i,o,_,h,_,_=>by simp at h
 | aO::l,acc,i,o,cW,h,j,ae=>by
  have HB:=cW;simp only [nu,Bool.and_eq_true] at cW;cases i with
  | zero=>
   simp at h;subst h;have e1:gA (kP (aO::l) acc) acc.length=vw acc aO.after.toList 0:=by
    unfold gA;rw [sb,kP,JQ l _ _ (by simp)];simp
   rw [Nat.add_zero,e1] at ae;rcases KI _ _ ae with q|⟨x,aa,hb,q⟩
   ·simp at q
   ·refine ⟨x,by simpa using aa,hb,q.imp id fun q=> ?_⟩;have bY:=Ev _ _ HB 0 aO (by simp) x (by simpa using aa) hb;unfold gA;rw [sb,kP,JQ l _ _ (by simp;omega),List.getElem?_append_left (by omega),<- sb];exact q
  | succ i=>
   have:=Uv l (acc++[vw acc aO.after.toList 0]) i o (by simpa using cW.2) (by simpa using h) j (by
    rw [kP] at ae;rw [show (acc++[vw acc aO.after.toList 0]).length+i=acc.length+(i+1) by simp;omega];exact ae)
   rw [kP];exact this
section
variable{P:Program}{main:Bool}{ah:Type}{Sy:Sys ah}{J:ah->Prop}{bj:Nat}{call:FuncId->List Value->aL->Option (Value×aL)}{ops:Array Oper}{bef:List Nat}{cz:List (Nat×Nat)}{E:cJ}{H:aL}{fI:bq}{h0:ab}{e0:Env}{dV:Nat->cJ}{a6:Nat->aL}{D:Nat->Bool}
theorem nR.still(R:nR P call ops cz bj E H fI h0 e0 bef dV a6){t i:Nat}:∀{j:Nat},i<=j->j<=ops.size->(∀k o,i<=k->k<j->ops[k]? =some o->o.dst≠some t)->(dV j).rd t=(dV i).rd t:=by
 intro j
 induction j with
 | zero=>
      intro h _ _;have:i=0:=by omega
      subst this;rfl
 | succ j aN=>
  intro m2 ae ao;rcases Nat.lt_or_ge i (j+1) with h|h
  ·have C7:ops[j]? =some ops[j]:=Array.getElem?_eq_getElem (by omega);obtain ⟨_,_,_,_,_,_,_,_,_,_,DY,_⟩:=R.step j _ C7;rw [DY];have b7:=ao j _ (by omega) (by omega) C7;cases hd:(ops[j]).dst with
   | none=>exact aN (by omega) (by omega) fun k o h1 h2=>ao k o h1 (by omega)
   | some u=>
    rw [BT,if_neg (fun e=>b7 (by rw [hd,e]))];exact aN (by omega) (by omega) fun k o h1 h2=>ao k o h1 (by omega)
  ·have:i=j+1:=by omega
   subst this;rfl
theorem akr(S:cD P bj fI H.get H.ar h0):fI.iM H.ar=fI:=funext fun c=>by
 rcases Nat.lt_or_ge c H.ar with h|h
 ·exact bq.q2 h
 ·rw [bq.MJ h,S.ek c h]
theorem uT.rd(R:nR P call ops cz bj E H fI h0 e0 bef dV a6){ρ:bq}{e:Env}{h:ab}(I:uT P ops bef bj E H fI h0 dV a6 D ρ e h){i:Nat}{o:Oper}(aQ:ops[i]? =some o)(hi:i<ops.size)(iv:D i=false)(kV:∀j,Nat.testBit (gA bef i) j=true->D j=true)
  {t:Nat} (aj:t∈(e9 P ops o).reads):bw (ρ.iM (a6 i).ar) ((dV i).rd t) (e t):=by
 have base:(∀k aO,ops[k]? =some aO->D k=true->aO.dst≠some t)->(∀k aO,0<=k->k<i->ops[k]? =some aO->aO.dst≠some t)->bw (ρ.iM (a6 i).ar) ((dV i).rd t) (e t):=fun h1 h2=>by
  rw [R.still (Nat.zero_le i) (by omega) h2,R.uS];refine (I.Hz t h1).mono fun c x hc=> ?_;have bY:c<H.ar:=Nat.lt_of_not_le fun iI=>by rw [R.oy.ek c iI] at hc;cases hc
  have:=R.po (i:=0) (j:=i) (by omega) (by omega);rw [R.l8] at this;rw [bq.q2 (by omega)];exact I.le c x hc
 by_cases hw:∃(k:Nat) (aO:Oper),ops[k]? =some aO/\aO.dst=some t
 ·obtain ⟨k,aO,hk,hd⟩:=hw;have Ip:k<ops.size:=(Array.getElem?_eq_some_iff.1 hk).1;have b7:i≠k:=fun e'=>by subst e';rw [aQ] at hk;cases hk;exact (R.own i o t aQ hd).1 aj
  have only:∀k' eh,ops[k']? =some eh->eh.dst=some t->k'=k:=fun k' eh hJ fo=>Classical.byContradiction fun ao=>(R.two k' k eh aO t hJ hk ao hd).1 fo;rcases (R.two i k o aO t aQ hk b7 hd).2 aj with hb|hb
  ·have nG:k<i:=Nat.lt_of_not_le fun iI=>by rw [R.bit i k hi iI] at hb;cases hb
   have:=I.HA k aO t hk (kV k hb) hd;rw [R.still (i:=k+1) (j:=i) (by omega) (by omega) (fun k' eh h1 h2 hJ fo=>by have:=only k' eh hJ fo;omega)];exact this.mono (bq.E3 ρ (R.po (by omega) (by omega)))
  ·have uk:i<k:=Nat.lt_of_not_le fun iI=>by rw [R.bit k i Ip iI] at hb;cases hb
   have avm:D k=false:=by
    cases fo:D k with
    | false=>rfl
    | true=>have:=I.closed k Ip fo i hb;rw [iv] at this;cases this
   refine base (fun k' eh hJ fo vz=> ?_) fun k' eh _ h2 hJ vz=> ?_
   ·have:=only k' eh hJ vz;subst this;rw [avm] at fo;cases fo
   ·have:=only k' eh hJ vz;omega
 ·exact base (fun k aO hk _ hd=>hw ⟨k,aO,hk,hd⟩) fun k aO _ _ hk hd=>hw ⟨k,aO,hk,hd⟩
theorem aho{ρ:bq}{e:Env}{E:cJ}{j t:Nat}{w:Bool}(bO:bw ρ (E.rd t) (e t))(ae:(ops[j]?).bind (·.dst)=some t):km E (some (t,w))=(kH ops e j==some w):=by
 unfold km kH;rw [ae];simp only;generalize E.rd t=a at bO ⊢;generalize e t=fh at bO ⊢;cases bO<;>first|rfl|skip
 rename_i b;cases b<;>cases w<;>rfl
theorem ahp{D l5:Nat->Bool}{n c:Nat}(h:∀k,k<n->D k=l5 k):bk a6 D n c=bk a6 l5 n c:=by
 induction n with
 | zero=>rfl
 | succ n aN=>
  have e:=h n (by omega);have aN:=aN fun k hk=>h k (by omega);by_cases hc:D n=true/\jY a6 n c
  ·rw [w9 hc.1 hc.2,w9 (e▸hc.1) hc.2]
  ·rw [q3 hc,q3 (fun q=>hc ⟨e.trans q.1,q.2⟩),aN]
theorem uT.congr(R:nR P call ops cz bj E H fI h0 e0 bef dV a6){l5:Nat->Bool}(du:∀i,i<ops.size->D i=l5 i){ρ:bq}{e:Env}{h:ab}(I:uT P ops bef bj E H fI h0 dV a6 D ρ e h):uT P ops bef bj E H fI h0 dV a6 l5 ρ e h:=by
 have lt:∀{k o},ops[k]? =some o->k<ops.size:=fun hk=>(Array.getElem?_eq_some_iff.1 hk).1;have g:∀c,bk a6 l5 ops.size c=bk a6 D ops.size c:=fun c=>(ahp du).symm;refine ⟨I.le,I.old,fun t aj=>I.Hz t fun k o hk hd=>aj k o hk (by rw [<- du k (lt hk)];exact hd),fun k o t hk hd=>I.HA k o t hk (by rw [du k (lt hk)];exact hd),fun c x m aG=>I.blk c x m (by rw [<- g];exact aG),fun c d x y m dR b k k' h1 h2=>I.inj c d x y m dR b k k' (by rw [<- g];exact h1) (by rw [<- g];exact h2),fun c hc al=> ?_,I.mq,fun c x m b k aG=>I.lW c x m b k (by rw [<- g];exact aG),fun k hk hd j ae=> ?_⟩
 ·obtain ⟨k,hk,hd,q⟩:=I.ek c hc al;exact ⟨k,hk,by rw [<- du k hk];exact hd,q⟩
 ·have Qc:j<k:=Nat.lt_of_not_le fun iI=>by rw [R.bit k j hk iI] at ae;cases ae
  rw [<- du j (by omega)];exact I.closed k hk (by rw [du k hk];exact hd) j ae
theorem JX(lR:P.follows .mixedOrders=true)(hC:q1 P main Sy J bj call)(iC:r8 call):F1 P main Sy J bj call:=by
 intro b d ops cz E dH H H' fI h0 e0 bm x N asD rB aa oy cU fL bO A;simp only [Bool.and_eq_true] at rB;obtain ⟨Qd,rB⟩:=rB;generalize Ph:kP ops.toList []=bef at rB aa;have hlen:bef.length=ops.size:=by rw [<- Ph,SU];simp
 obtain ⟨dV,a6,r1,r2,r3,gI,ih,ta⟩:=aeL P call ops bef cz ops.toList bef 0 [] E H (fun _=>E) (fun _=>H) (fun j ae=>by
  have:j<bef.length:=by rw [hlen];simpa using ae
  rw [Nat.zero_add,List.getElem?_eq_getElem this];simp [gA,sb,List.getElem?_eq_getElem this]) rfl rfl (fun k hk=>by omega) (fun k lo hi h=>by cases h) aa
 refine ⟨ih,fun t=> ?_⟩;have Pj:∀j o,ops[j]? =some o->(ops.toList.map (e9 P ops))[j]? =some (e9 P ops o):=fun j o ae=>by
  rw [List.getElem?_map,Array.getElem?_toList,ae];rfl
 have stat:=fun i o (hi:ops[i]? =some o)=>KH _ _ rB i _ (Pj i o hi);simp only [Nat.zero_add,Bool.and_eq_true] at stat;have R:nR P call ops cz bj E H fI h0 e0 bef dV a6:=by
  refine ⟨r1 0 (Nat.le_refl _),r2 0 (Nat.le_refl _),oy,cU,bO,iC,fun j o ae=>by simpa using ta j o (by rw [Array.getElem?_toList];exact ae),fun j o ae y ax=> ?_,fun i k hi uk=> ?_,fun i k o aO t hi hk b7 hd=> ?_,fun i o t hi hd=> ?_,hlen⟩
  ·have:=List.all_eq_true.1 asD (e9 P ops o) (List.mem_of_getElem? (Pj j o ae));exact List.all_eq_true.1 this y ax
  ·have bY:=sc (stat i _ (Array.getElem?_eq_getElem hi)).1.1;exact Nat.testBit_lt_two_pow (Nat.lt_of_lt_of_le bY (Nat.pow_le_pow_right (by omega) uk))
  ·have:=KH _ _ (stat i o hi).1.2 k _ (Pj k aO hk);rw [Nat.zero_add] at this;have ao:Nat.beq i k=false:=by cases hb:Nat.beq i k with|false=>rfl|true=>exact absurd (beq_eq hb) b7
   rw [ao,Bool.false_or,EI,hd] at this;simp only [Bool.and_eq_true,Bool.or_eq_true,Bool.not_eq_true',EI] at this;refine ⟨fun e'=>by rw [e'] at this;simp at this,fun aj=> ?_⟩;rcases this.2 with q|q
   ·exact q
   ·rw [List.contains_iff_mem.2 aj] at q;cases q
  ·have:=(stat i o hi).2;rw [EI,hd] at this;simp only [Bool.and_eq_true,Bool.not_eq_true'] at this;refine ⟨fun aj=>by rw [List.contains_iff_mem.2 aj] at this;exact absurd this.1 (by simp),fun k w hk e'=> ?_⟩;have:=List.all_eq_true.1 this.2 (k,w) hk;subst e';simp at this
 have eJ:0+ops.toList.length=ops.size:=by simp
 rw [eJ] at r3 gI;unfold Region.schedule;rw [lR,Bool.true_or,if_pos rfl];refine y1 Qd (fun D e s h=>J s/\∃ρ,uT P ops bef bj E H fI h0 dV a6 D ρ e h) (fun D l5 e s h du ⟨q,ρ,I⟩=>⟨q,ρ,I.congr R du⟩) (fun D e s h i o ⟨Iq,ρ,I⟩ hi iv aQ nY=> ?_) (fun D e s h ⟨Iq,ρ,I⟩ kn=> ?_) ?_ t
 ·
  have kV:∀j,Nat.testBit (gA bef i) j=true->D j=true:=fun j ae=>by
   rw [<- Ph] at ae;obtain ⟨y,ax,hb,q⟩:=Uv ops.toList [] i o Qd (by rw [Array.getElem?_toList];exact aQ) j (by simpa using ae);have Z1:=nY y ax hb;have bY:=Ev ops.toList 0 Qd i o (by rw [Array.getElem?_toList];exact aQ) y ax hb;rcases q with q|q
   ·rw [<- q];exact Z1
   ·rw [Ph] at q;exact I.closed y.on (by omega) Z1 j q
  obtain ⟨V,v,H1,a1,a2,a3,a4,a5,eK,eV,fJ,a9⟩:=R.step i o aQ;have lQ:Can V H1:=by
   rcases eV with ⟨_,hh⟩|⟨_,_,hh⟩
   ·exact vd iC hh
   ·rw [hh];exact .refl _
  have Qa:∀c,(a6 i).ar<=c->dg V.bZ c=true->dg (a6 i).bZ c=true:=fun c hc aI=>by
   rcases a4 c hc aI with q|⟨k,hk,q⟩|⟨k,w,hk,q⟩
   ·exact q
   ·have:=R.po (i:=k+1) (j:=i) (by omega) (by omega);omega
   ·exfalso;rw [R.still (i:=0) (j:=i) (Nat.zero_le _) (by omega) (fun k' aO _ _ hJ hd=>(R.own k' aO w hJ hd).2 k w hk rfl),R.uS] at q;have iK:=bO w;generalize E.rd w=a at q iK;generalize e0 w=fh at iK;cases iK<;>simp [nW] at q;rename_i b9 k' aO e';rw [q] at e';have bY:c<H.ar:=Nat.lt_of_not_le fun iI=>by rw [oy.ek c iI] at e';cases e'
    have:=R.po (i:=0) (j:=i) (by omega) (by omega);rw [R.l8] at this;omega
  obtain ⟨Ai,X2⟩:=I.next R aQ hi iv kV a1 a2 a3 Qa a5 (eK.imp And.left And.left) lQ fJ a9;have sJ:Region.wanted o (kH ops e)=km (dV i) (e9 P ops o).g\/(km (dV i) (e9 P ops o).g=true/\(e9 P ops o).op=.bad):=by
   cases aG:o.guard with
   | none=>left;simp only [e9,aG,Region.wanted,km]
   | some p=>
    obtain ⟨j,w⟩:=p;cases ae:(ops[j]?).bind (·.dst) with
    | some t=>
     left;have Qe:t∈(e9 P ops o).reads:=by
      unfold e9;simp only [aG,ae,nQ.reads,List.mem_append,List.mem_singleton,true_or]
     have:=aho (w:=w) (I.rd R aQ hi iv kV Qe) ae;simp only [e9,aG,ae,Region.wanted];exact this.symm
    | none=>right;simp only [e9,aG,ae,km,and_self]
  rcases eV with ⟨hw,aF⟩|⟨hw,aI,nh⟩
  ·have sJ:Region.wanted o (kH ops e)=km (dV i) (e9 P ops o).g:=by
    rcases sJ with sJ|⟨_,asE⟩
    ·exact sJ
    ·rw [asE] at aF;simp only [cA] at aF;cases aF
   rw [sJ,hw,if_pos rfl];have asF:cA call (dV i) V (q0 P o)=some (v,H1):=by
    have:(e9 P ops o).op=q0 P o\/(e9 P ops o).op=.bad:=by
     unfold e9;split
     ·exact .inl rfl
     ·split
      ·exact .inl rfl
      ·exact .inr rfl
    rcases this with e'|e'
    ·rw [e'] at aF;exact aF
    ·rw [e'] at aF;simp only [cA] at aF;cases aF
   have asG:(e9 P ops o).op=q0 P o:=by
    unfold e9 at aF ⊢;split at aF
    ·rename_i aG;simp only [aG]
    ·rename_i j w aG;split at aF
     ·rename_i t ae;simp only [aG,ae]
     ·simp only [cA] at aF;cases aF
   refine tk (J8 (J:=J) asF Ai (by rw [a2];exact Nat.le_trans cU (by have:=R.po (i:=0) (j:=i) (by omega) (by omega);rw [R.l8] at this;exact this)) Iq hC (fun y ax=> ?_) fun ai bA h' bQ an az aB aX=> ?_)
   ·rw [<- asG] at ax;cases y with
    | tmp t=>exact I.rd R aQ hi iv kV (by unfold nQ.reads;exact List.mem_append.2 (.inr (Td ax)))
    | const c=>exact EX (R.ZW i o aQ _ ax)
    | global g=>exact .ptr 0 (Ai.sn g (sc (R.ZW i o aQ _ ax)))
    | func f=>exact .func f .nil .nil
   ·exact ⟨rfl,an,X2 bA h' bQ az aB aX⟩
  ·have sJ:Region.wanted o (kH ops e)=km (dV i) (e9 P ops o).g:=by
    rcases sJ with sJ|⟨qy,_⟩
    ·exact sJ
    ·rw [hw] at qy;cases qy
   rw [sJ,hw,if_neg (by simp)];subst aI;subst nh;exact ⟨Iq,X2 _ h undef Ai bw.undef (gu.refl Ai)⟩
 ·
  refine ⟨fL,fI,⟨.refl _,fun _ _=>rfl,fun t _=>bO t,(fun k o t _ hd=>by cases hd),fun c y m aG=> ?_,fun c b2 y z m dR b k k' aG iN ax aH h1 h2=> ?_,fun c hc al=>absurd (oy.ek c hc) al,fun b y hb _=>hb,(fun c y m b k aG hc af al=>by rw [oy.ek c hc] at al;cases al),(fun k _ hd=>by cases hd)⟩⟩
  all_goals
   have g0:∀n c,bk a6 (fun _=>false) n c=(H.get c,H.ar):=fun n c=>by
    induction n with
    | zero=>show ((a6 0).get c,(a6 0).ar)=_;rw [R.l8]
    | succ n aN=>rw [q3 (fun q=>by cases q.1),aN]
  ·rw [g0] at aG;simp only [Prod.mk.injEq] at aG;obtain ⟨h1,rfl⟩:=aG;rw [akr oy];exact oy.blk c y h1
  ·rw [g0] at aG iN;simp only [Prod.mk.injEq] at aG iN;exact oy.inj c b2 y z b k k' aG.1 iN.1 ax aH h1 h2
 ·
  have asH:∀j c,j<=ops.size->∃m,m<=(a6 j).ar/\bk a6 D j c=((a6 j).get c,m):=by
   intro j c
   induction j with
   | zero=>intro _;exact ⟨_,Nat.le_refl _,rfl⟩
   | succ j aN=>
    intro ae;obtain ⟨m,h1,h2⟩:=aN (by omega);by_cases hc:jY a6 j c
    ·rw [w9 (kn j (by omega)) hc];exact ⟨_,Nat.le_refl _,rfl⟩
    ·rw [q3 (fun q=>hc q.2),h2];have:(a6 (j+1)).get c=(a6 j).get c:=Classical.byContradiction hc;exact ⟨m,Nat.le_trans h1 (R.po (by omega) (by omega)),by rw [this]⟩
  have lQ:=(R.none ops.size (Nat.le_refl _)).2;rw [gI] at lQ;have HC:∀c x,H'.get c=some x->∃m,bk a6 D ops.size c=(some x,m):=fun c x hc=>by
   obtain ⟨m,_,h2⟩:=asH ops.size c (Nat.le_refl _);rw [gI,hc] at h2;exact ⟨m,h2⟩
  have cZ:cD P bj ρ H'.get H'.ar h:=by
   refine ⟨fun c y hc=> ?_,fun c b2 y z b k k' hc eY ax aH h1 h2=> ?_,fun c hc=> ?_,fun g aG=> ?_⟩
   ·obtain ⟨m,aG⟩:=HC c y hc;obtain ⟨b,kk,h1,h2⟩:=I.blk c y m aG;exact ⟨b,kk,bq.sd _ _ _ _ h1,h2.mono (bq.sd _ _)⟩
   ·obtain ⟨m,aG⟩:=HC c y hc;obtain ⟨dR,iN⟩:=HC b2 z eY;exact I.inj c b2 y z m dR b k k' aG iN ax aH h1 h2
   ·cases al:ρ c with
    | none=>rfl
    | some q=>
     exfalso;obtain ⟨k,hk,_,_,h4⟩:=I.ek c (Nat.le_trans lQ.ar hc) (by rw [al];simp);have:=R.po (i:=k+1) (j:=ops.size) (by omega) (Nat.le_refl _);rw [gI] at this;omega
   ·rw [I.old g (Nat.lt_of_lt_of_le aG cU)];exact oy.sn g aG
  refine A s ρ e h Iq cZ (fun t=> ?_) ⟨I.le,I.old,lQ.ar,lQ.cg,lQ.bZ,fun c hc ao=>lQ.can c (.inl hc) ao,I.mq,fun c y b9 k hc ao af al=> ?_⟩
  ·rw [<- r3];by_cases hw:∃(k:Nat) (aO:Oper),ops[k]? =some aO/\aO.dst=some t
   ·obtain ⟨k,aO,hk,hd⟩:=hw;have Ip:k<ops.size:=(Array.getElem?_eq_some_iff.1 hk).1;rw [R.still (i:=k+1) (j:=ops.size) (by omega) (Nat.le_refl _) (fun k' eh h1 h2 hJ fo=>(R.two k' k eh aO t hJ hk (by omega) hd).1 fo)];exact (I.HA k aO t hk (kn k Ip) hd).mono (bq.sd _ _)
   ·rw [R.still (i:=0) (j:=ops.size) (by omega) (Nat.le_refl _) (fun k' eh h1 h2 hJ fo=>hw ⟨k',eh,hJ,fo⟩),R.uS];exact (I.Hz t fun k aO hk _ hd=>hw ⟨k,aO,hk,hd⟩).mono I.le
  ·obtain ⟨m,aG⟩:=HC c y hc;exact I.lW c y m b9 k aG ao af al
end
def ef(f id:Nat):List (Nat×Nat):=cond (Nat.beq f 21&&Nat.beq id 15) [(17,11)] []
noncomputable def Qf(f:Nat)(fn:Func):yz:=⟨fn.ntmps,comp Tryz.prog (ef f) (fn.body.getD .skip),fn.results.toList.filterMap (ake Tryz.prog)⟩
noncomputable def Z2(f:Nat):Bool:=match Tryz.prog.funcs[f]? with
 | some fn=>fn.body.isSome&&(ga fn.ntmps (fn.body.getD .skip)&&((Qf f fn).body.hV 12&&(iu Tryz.prog (ef f) (fn.body.getD .skip)&&(xE Tryz.prog fn.ntmps fn.results.toList (Qf f fn).res&&bP Tryz.prog f))))
 | none=>false
def Qg:List Nat:=[7,16,17,18,19,20,21,22,23,24,25,26,27,28,29,30,31,32,33,46,51,52,53,54,55,56,57,59,60,61,62,63,64,65,66,67,68,69,88,89,90,91,92,93,94,95,97,99,101,104,105,106,107,112,140,141,142,144,145,146,153,154,159,163,186,187,188,189,190,191,192,206,210,211,212,218,220,222,223,228,250,275,276,277,278,279,280,281,282,283,284,285,286,287,288,289,290]
theorem ani:Qg.all Z2=true:=by kernel_rfl
noncomputable def fl(f:FuncId):Option yz:=cond (Qg.any (Nat.beq f)) ((Tryz.prog.funcs[f]?).map (Qf f)) none
theorem aks(f:FuncId)(F:yz)(h:fl f=some F):ZR Tryz.prog 12 f F:=by
 unfold fl at h;cases hb:Qg.any (Nat.beq f) with
 | false=>rw [hb] at h;cases h
 | true=>
  rw [hb,cond_true] at h;obtain ⟨n,ao,e⟩:=List.any_eq_true.1 hb;obtain rfl:=Nat.eq_of_beq_eq_true e;have ok:=List.all_eq_true.1 ani _ ao;unfold Z2 at ok;cases aP:Tryz.prog.funcs[f]? with
  | none=>rw [aP] at h;cases h
  | some fn=>
   rw [aP] at h ok;cases h;simp only [Bool.and_eq_true] at ok;obtain ⟨o1,o2,pT,Be,ayX,ayY⟩:=ok;obtain ⟨c,hc⟩:=Option.isSome_iff_exists.1 o1;rw [hc] at o2 Be;refine ⟨⟨fn,c,ef f,aP,hc,rfl,o2,?_,pT,Be,ayX⟩,ayY⟩;show comp Tryz.prog (ef f) c=comp Tryz.prog (ef f) (fn.body.getD .skip);rw [hc];rfl
theorem hR:Tryz.prog.follows .mixedOrders=true:=by kernel_rfl
theorem Oo{main:Bool}{ah:Type}(Sy:Sys ah)(J:ah->Prop)(orc:FuncId->List Value->aL->Option (Option (Value×aL)))
  (aQ:q1 Tryz.prog main Sy J 12 fun f a H=>match orc f a H with|some r=>r|none=>none) (hc:r8 fun f a H=>match orc f a H with|some r=>r|none=>none) (m:Nat):
  q1 Tryz.prog main Sy J 12 (eH fl orc m):=
 ady fl orc aks aQ (fun m h=>JX hR h (EH hc m)) m
def iF:FuncId->List Value->aL->Option (Option (Value×aL)):=fun _ _ _=>none
def vX:List cn->aL->aL
 | [],H=>H
 | x::l,H=>vX l (H.qp x fun _ H=>H)
def gn(l:List cn):aL:=let H:=vX l ⟨.nil,12,0,[]⟩;{H with cg:=H.ar}
theorem Lc:∀(l:List cn) (H:aL),(∀c,H.ar<=c->H.t.get c=none)->H.bZ=[]->
  (vX l H).ar=H.ar+l.length/\(vX l H).bZ=[]/\∀c,(vX l H).t.get c=if c<H.ar then H.t.get c else l[c- H.ar]?
 | [],H,ao,hh=>⟨rfl,hh,fun c=>by
   show H.t.get c=_;split
   ·rfl
   ·rw [ao c (by omega)];simp⟩
 | x::l,H,ao,hh=>by
  unfold vX;rw [aL.qZ];have e:∀c,(H.new x).ar<=c->(H.new x).t.get c=none:=fun c hc=>by
   have eY:H.ar+1<=c:=hc;rw [aL.u9,if_neg (by omega)];exact ao c (by omega)
  obtain ⟨a1,a2,a3⟩:=Lc l (H.new x) e hh;refine ⟨by rw [a1];show H.ar+1+l.length=_;simp;omega,a2,fun c=> ?_⟩;rw [a3,aL.u9];show (if c<H.ar+1 then (if c=H.ar then some x else H.t.get c) else l[c- (H.ar+1)]?)=if c<H.ar then H.t.get c else (x::l)[c- H.ar]?
  by_cases h1:c<H.ar
  ·rw [if_pos (by omega),if_neg (by omega),if_pos h1]
  ·rw [if_neg h1];by_cases h2:c=H.ar
   ·subst h2;simp
   ·rw [if_neg (by omega)];have:c- H.ar=(c- (H.ar+1))+1:=by omega
    rw [this];simp
theorem zm(l:List cn)(c:Nat):(gn l).get c=if c<12 then none else l[c- 12]? :=by
 obtain ⟨a1,a2,a3⟩:=Lc l ⟨.nil,12,0,[]⟩ (fun c _=>dA.get_nil c) rfl;rw [aL.get_eq];have:dg (gn l).bZ c=false:=by show dg (vX l ⟨.nil,12,0,[]⟩).bZ c=false;rw [a2];rfl
 rw [this];show (vX l ⟨.nil,12,0,[]⟩).t.get c=_;rw [a3];show (if c<12 then dA.nil.get c else _)=_;rw [dA.get_nil]
theorem xa(l:List cn):(gn l).ar=12+l.length:=(Lc l ⟨.nil,12,0,[]⟩ (fun c _=>dA.get_nil c) rfl).1
theorem Fj(l:List cn):(gn l).cg=12+l.length:=xa l
def ia(bs:List (Nat×Nat)):bq:=fun c=>if c<12 then some (c,0) else bs[c- 12]?
theorem Uw{cbs:List cn}{bs:List (Nat×Nat)}{h:ab}(af:bs.length=cbs.length)(fK:∀(i j b k k':Nat),bs[i]? =some (b,k)->bs[j]? =some (b,k')->i=j)(hb:∀(i:Nat) (x:cn) (b k:Nat),cbs[i]? =some x->bs[i]? =some (b,k)->Bk Tryz.prog (ia bs) k x (h b)):cD Tryz.prog 12 (ia bs) (gn cbs).get (gn cbs).ar h:=by
 refine ⟨fun c x aa=> ?_,fun c d x y b k k' aa ax _ _ h1 h2=> ?_,fun c hc=> ?_,fun g aG=>by simp [ia,aG]⟩
 ·rw [zm] at aa;split at aa
  ·cases aa
  ·rename_i hc;have bY:c- 12<bs.length:=by rw [af];exact (List.getElem?_eq_some_iff.1 aa).1
   have fv:bs[c- 12]? =some bs[c- 12]:=List.getElem?_eq_getElem bY;exact ⟨bs[c- 12].1,bs[c- 12].2,by simp only [ia,if_neg hc,fv],hb _ _ _ _ aa fv⟩
 ·rw [zm] at aa ax;split at aa
  ·cases aa
  ·split at ax
   ·cases ax
   ·rename_i hc hd;simp only [ia,if_neg hc,if_neg hd] at h1 h2;have:=fK _ _ _ _ _ h1 h2;omega
 ·rw [xa] at hc;simp only [ia,if_neg (show ¬c<12 by omega)];rw [List.getElem?_eq_none (by omega)]
theorem ve{main:Bool}{ah:Type}{Sy:Sys ah}{cbs:List cn}{bs:List (Nat×Nat)}{h:ab}{m:Nat}{f:FuncId}{args:List Value}{args':List Value}{v:Value}{H':aL}{s:ah}(aa:eH fl iF m f args (gn cbs)=some (v,H'))
  (af:bs.length=cbs.length) (fK:∀(i j b k k':Nat),bs[i]? =some (b,k)->bs[j]? =some (b,k')->i=j) (hb:∀(i:Nat) (x:cn) (b k:Nat),cbs[i]? =some x->bs[i]? =some (b,k)->Bk Tryz.prog (ia bs) k x (h b)) (aA:cV (ia bs) args args'):
  bP Tryz.prog f=true/\bI Tryz.prog main Sy f ⟨args'⟩ s h fun ai h' bQ=>ai=s/\h.aD h'/\∃bA,cD Tryz.prog 12 bA H'.get H'.ar h'/\bw bA v bQ/\gu (gn cbs) (ia bs) h H' bA h':=by
 have hc:=Oo (main:=main) Sy (fun ai=>ai=s) iF (fun f xs v H H' aa=>by cases aa) (fun f xs v H H' aa=>by cases aa) m;obtain ⟨ck,q⟩:=hc f args v (gn cbs) H' aa (ia bs) h args' s (Uw af fK hb) aA (by rw [xa];omega) rfl;refine ⟨ck,q.mono fun ai h' bQ ⟨e,bA,an,az,aB⟩=>⟨e,fun b x CS=>aB.mq b x CS fun c k hw _=> ?_,bA,an,az,aB⟩⟩;obtain ⟨w1,y,w2,_⟩:=hw;rw [Fj] at w1;rw [zm] at w2;split at w2
 ·cases w2
 ·have:=(List.getElem?_eq_some_iff.1 w2).1;omega
end
end Go.Nk
