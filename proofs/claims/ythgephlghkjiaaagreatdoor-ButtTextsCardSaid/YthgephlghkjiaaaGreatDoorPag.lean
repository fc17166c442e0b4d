/- Part Pag of the proof of ButtTexts: lemmas. -/
import Derived.Test.YthgephlghkjiaaaGreatDoorPaf
set_option maxRecDepth 100000
set_option maxHeartbeats 4000000
set_option linter.all false
namespace Go.Nk
noncomputable section
open Go Go.Conc Go.Proofs
open _root_.Array renaming ofFn->avq,getD->aws,getD_eq_getD_getElem?->auZ,getElem?_setIfInBounds_ne->avD,getElem?_eq_getElem->aul,all_eq_true'->aBu
open Bool renaming true->J,and_eq_true->vh,false_eq_true->N2,false->q9,not_true->avO,not_eq_true'->avp,false_or->awc
open Go renaming Value->o5,Program->tb,FuncId->vb,Deferred->tc,Operand->su,Oper->sa,undef->vk,ResultVar->awW
open Go.Region renaming binds->atV,linearise->azS
open Go.Region.linearise renaming go->avP
open List renaming map_nil->awD,map_cons->atS,all_eq_true->G0,mapM_cons->axP,length_cons->RF,range->atG,filter_cons->aBt,mem_cons->B4,getElem?_eq_getElem->Q4,mem_filter->aw0,mem_range->au9,mem_cons_of_mem->avz,mem_cons_self->awE
open Nat renaming le_trans->atD,beq->td,blt->Kf,zero_le->awu,ble->vd,le_refl->vr,testBit->atE,ble_eq_true_of_le->aus,add_zero->asg,lt_irrefl->azn,le_of_eq->ayj,lt_or_ge->vy,lt_of_not_le->avg
open Option renaming some->C,none->o0,map_some->avb,getD_some->auS,none->ayT
def lD(ρ:aX)(E:cL)(e:Env):Prop:=∀t,bj ρ (E.rd t) (e t)
def lD.mono{ρ bq:aX}(le:ρ.ar bq){E:cL}{e:Env}(h:lD ρ E e):lD bq E e:=λt=>(h t).mono le
def cL.put(E:cL)(d:Option Nat)(v:o5):cL:=match d with|some d=>dp.set v (d+1) E d|none=>E
def oU{β:Type}(E:cL)(d:Option Nat)(v:o5)(k:cL->β):sL E d v k=k (E.put d v):=by
 cases d with
 |none=>rfl
 |some d=>exact dp.nB v (d+1) E d k
def Ac(E:cL)(d:Nat)(v:o5)(t:Nat):(E.put (C d) v).rd t=if t=d then v else E.rd t:=by unfold cL.rd cL.put;simp only[dp.sO v (d+1) E d (Nat.lt_succ_self _)];by_cases h:t=d<;>simp[h]
def lD.put{ρ:aX}{E:cL}{e:Env}(h:lD ρ E e){v a:o5}(b:bj ρ v a)(d:Option Nat):lD ρ (E.put d v) (b7 e d a):=by
 cases d with
 |none=>exact h
 |some d=>
  intro t;rw[Ac,eU,aL];split
  .exact b
  .exact h t
section
variable{P:tb}{main:Bool}{ai:Type}{Sy:Sys ai}{Jz:ai->Prop}{aQ:Nat}{ρ:aX}{H H':aE}{h:ae}{call:vb->List o5->aE->Option (o5×aE)}{E dz:cL}{e:Env}{v:o5}{b:aS}{s:ai}{d:List tc}
 {n:Nat}
def Pk(S:cD P aQ ρ H.get H.an h)(b:lD ρ E e){x:su}(a:uk aQ x=J):bj ρ (bW E x) (aA e x):=by
 cases x with
 |tmp t=>exact b t
 |const v=>exact Cj a
 |global g=>exact .ptr 0 (S.rI g (rJ a))
 |func f=>exact .func f .nil .nil
def aal(c:lD ρ E e){ops:Array sa}{j t:Nat}{w:Bool}(d:(ops[j]?).bind (·.dst)=C t):ko E (C (t,w))=(jV ops e j==C w):=by
 have:=c t;unfold ko jV;rw[d];simp only;generalize E.rd t=a at this ⊢;generalize e t=f at this ⊢;cases this<;>first|rfl|skip
 rename_i b;cases b<;>cases w<;>rfl
def xP(P:tb)(aQ:Nat)(Jz:ai->Prop)(ρ:aX)(H:aE)(h:ae)(dz:cL)(H':aE)(d:List tc)(N:Env->List tc->ai->ae->Prop):Prop:=∀a bq b h',Jz a->cD P aQ bq H'.get H'.an h'->lD bq dz b->gq H ρ h H' bq h'->N b d a h'
def xP.step{e:aE}{g:aX}{h1:ae}{N:Env->List tc->ai->ae->Prop}(A:xP P aQ Jz ρ H h dz H' d N)(S:cD P aQ ρ H.get H.an h)(i:cD P aQ g e.get e.an h1)(F:gq H ρ h e g h1):xP P aQ Jz g e h1 dz H' d N:=λj bq k h' a b c f=>A j bq k h' a b c (F.trans S i f)
def aam{x:eM}:∀(l:List mY) (E:cL) (H:aE),ix call l E H=.ok x dz H'->x=.cx:=by
 intro l
 induction l with
 |nil=>intro E H a;simp only[ix,jX.ok.injEq]at a;exact a.1.symm
 |cons o l b=>
  intro E H a;simp only[ix]at a;cases c:ko E o.g with
  |true=>
   rw[c,cond_true]at a;split at a
   .rw[oU]at a;exact b _ _ a
   .cases a
  |false=>rw[c,cond_false,oU]at a;exact b _ _ a
def aan(L:qH P main Sy Jz aQ call){ops:Array sa}:∀(l:List sa) (E:cL) (H:aE) (ρ:aX) (h:ae) (e:Env) (s:ai) (x:eM) (N:Env->List tc->ai->ae->Prop),((l.map (eY P ops)).all λo=>o.op.di.all (uk aQ))=J->ix call (l.map (eY P ops)) E H=.ok x dz H'->cD P aQ ρ H.get H.an h->aQ<=H.an->Jz s->lD ρ E e->xP P aQ Jz ρ H h dz H' d N->x=.cx/\jd P main Sy b ops l e d s h N:=by
 intro l
 induction l with
 |nil=>intro E H ρ h e s x N _ a S g i f A;simp only[awD,ix,jX.ok.injEq]at a;obtain⟨rfl,rfl,rfl⟩:=a;exact⟨rfl,A s ρ e h i S f (gq.refl S)⟩
 |cons o l n=>
  intro E H ρ h e s x N c a S g i f A;simp only[atS,List.all_cons,vh]at c;simp only[atS,ix]at a;have go:∀(q:dh),q=qF P o->(q.di.all (uk aQ))=J->(match cy call E H q with
    |some (v,H)=>sL E o.dst v λe=>ix call (l.map (eY P ops)) e H
    |none=>.fail)=.ok x dz H'->x=.cx/\bP P main Sy b o e d s h λe d s h=>jd P main Sy b ops l e d s h N:=by
   intro q z B a;subst z;split at a
   .rename_i v Q D;rw[oU]at a;have F:x=.cx:=aam _ _ _ a;refine⟨F,Hn D S g i L (λy G=>Pk S f (G0.1 B y G)) λM bq h' R I p K k=> ?_⟩;exact(n _ _ bq h' _ M x N c.2 a p (atD g k.an) I ((f.mono k.le).put K _) (A.step S p k)).2
   .cases a
  have skip:sL E o.dst vk (λe=>ix call (l.map (eY P ops)) e H)=.ok x dz H'->x=.cx/\jd P main Sy b ops l (b7 e o.dst vk) d s h N:=λa=>by rw[oU]at a;exact n _ _ ρ h _ s x N c.2 a S g i (f.put bj.undef _) A
  rw[jd];unfold eY at a c;split at a
  .rename_i m;simp only[m]at c ⊢;simp only[ko,cond_true]at a;exact go _ rfl c.1 a
  .rename_i j w m;simp only[m]at c ⊢;split at a
   .rename_i t r;simp only[r]at c;simp only[aal f r]at a;simp only[bA,vv];cases u:(jV ops e j==C w)with
    |true=>rw[u,cond_true]at a;rw[if_pos rfl];exact go _ rfl c.1 a
    |false=>rw[u,cond_false]at a;rw[if_neg Y];exact skip a
   .simp only[ko,cond_true,cy]at a;cases a
def CB(P:tb)(main:Bool){ai:Type}(Sy:Sys ai)(Jz:ai->Prop)(aQ:Nat)(call:vb->List o5->aE->Option (o5×aE)):Prop:=∀(b:aS) (d:List tc) (ops:Array sa) (cC:List (Nat×Nat)) (E dz:cL) (H H':aE) (ρ:aX) (h:ae) (e:Env) (s:ai) (x:eM) (N:Env->List tc->ai->ae->Prop),((ops.toList.map (eY P ops)).all λo=>o.op.di.all (uk aQ))=J->(l5 0 ops.toList&&OF (ops.toList.map (eY P ops)) (kJ ops.toList []) cC)=J->oR call (kJ ops.toList []) cC (sM (kJ ops.toList [])) 0 (ops.toList.map (eY P ops)) (kJ ops.toList []) [] E H=.ok x dz H'->cD P aQ ρ H.get H.an h->aQ<=H.an->Jz s->lD ρ E e->xP P aQ Jz ρ H h dz H' d N->
  x=.cx/\∀t,fO P main Sy b ops (Region.schedule (P.follows .mixedOrders) ops t) e d s h N
def CC(hC:qH P main Sy Jz aQ call)(Q:CB P main Sy Jz aQ call)(cC:Nat->List (Nat×Nat)):∀(c:Code) (E:cL) (H:aE) (ρ:aX) (h:ae) (e:Env) (s:ai) (x:eM) (dz:cL) (H':aE) (K:eM->Env->List tc->ai->ae->Prop),(comp P cC c).iy aQ=J->iJ P cC c=J->gK call (comp P cC c) E H=.ok x dz H'->cD P aQ ρ H.get H.an h->aQ<=H.an->Jz s->lD ρ E e->xP P aQ Jz ρ H h dz H' d (K x)->cB P main Sy n b c K e d s h:=by
 intro c
 induction c with
 |skip=>intro E H ρ h e s x dz H' K _ _ a S k j g A;simp only[comp,gK,jX.ok.injEq]at a;obtain⟨rfl,rfl,rfl⟩:=a;exact A s ρ e h j S g (gq.refl S)
 |label l=>intro E H ρ h e s x dz H' K _ _ a S k j g A;simp only[comp,gK,jX.ok.injEq]at a;obtain⟨rfl,rfl,rfl⟩:=a;exact A s ρ e h j S g (gq.refl S)
 |seq c1 c2 L M=>
  intro E H ρ h e s x dz H' K m hd a S k j g A;simp only[comp,mx.iy,vh]at m;simp only[iJ,vh]at hd;simp only[comp,gK]at a;rw[cB];split at a
  .rename_i B F h1;refine L E H ρ h e s .cx B F _ m.1 hd.1 h1 S k j g λy bq z h' r o v p=> ?_;exact M B F bq h' z y x dz H' K m.2 hd.2 a o (atD k p.an) r v (A.step S o p)
  .rename_i I;refine L E H ρ h e s x dz H' _ m.1 hd.1 a S k j g λy bq z h' r o v p=> ?_;have:=A y bq z h' r o v p;cases x with
   |cx=>exact absurd a (I dz H')
   |ext i=>exact this
   |ret=>exact this
 |cond t c1 c2 L M=>
  intro E H ρ h e s x dz H' K m hd a S k j g A;simp only[comp,mx.iy,vh]at m;simp only[iJ,vh]at hd;simp only[comp,gK]at a;have G:=Pk S g m.1;simp only[cB];split at a
  .rename_i N;rw[N]at G;generalize aA e t=u at G;cases G;exact L E H ρ h e s x dz H' K m.2.1 hd.1 a S k j g A
  .rename_i N;rw[N]at G;generalize aA e t=u at G;cases G;exact M E H ρ h e s x dz H' K m.2.2 hd.2 a S k j g A
  .cases a
 |block id c D=>
  intro E H ρ h e s x dz H' K m hd a S k j g A;simp only[comp,gK]at a;rw[cB];split at a
  .rename_i i B F h1;refine D E H ρ h e s (.ext i) B F _ m hd h1 S k j g λy bq z h' r o v p=> ?_;cases hb:td i id with
   |true=>rw[hb,cond_true]at a;simp only[jX.ok.injEq]at a;obtain⟨rfl,rfl,rfl⟩:=a;simp only[lV,beq_eq hb,if_true];exact A y bq z h' r o v p
   |false=>
    rw[hb,cond_false]at a;simp only[jX.ok.injEq]at a;obtain⟨rfl,rfl,rfl⟩:=a;have:¬i=id:=λe0=>by subst e0;simp at hb
    simp only[lV,this,if_false];exact A y bq z h' r o v p
  .rename_i I;refine D E H ρ h e s x dz H' _ m hd a S k j g λy bq z h' r o v p=> ?_;have:=A y bq z h' r o v p;cases x with
   |cx=>exact this
   |ext i=>exact absurd a (I i dz H')
   |ret=>exact this
 |loop c D=>
  intro E H ρ h e s x dz H' K m hd a S k j g A;simp only[comp,gK]at a;rw[cB];intro X R;revert a;generalize 5000=fuel;intro a
  induction fuel generalizing E H ρ h e s with
  |zero=>cases a
  |succ fuel W=>
   simp only[Cd]at a;refine R e d s h ?_;split at a
   .rename_i B F h1;refine D E H ρ h e s .cx B F _ m hd h1 S k j g λy bq z h' r o v p=> ?_;exact W B F bq h' z y o (atD k p.an) r v (A.step S o p) a
   .rename_i I;refine D E H ρ h e s x dz H' _ m hd a S k j g λy bq z h' r o v p=> ?_;have:=A y bq z h' r o v p;cases x with
    |cx=>exact absurd a (I dz H')
    |ext i=>exact this
    |ret=>exact this
 |exit id=>intro E H ρ h e s x dz H' K _ _ a S k j g A;simp only[comp,gK,jX.ok.injEq]at a;obtain⟨rfl,rfl,rfl⟩:=a;exact A s ρ e h j S g (gq.refl S)
 |ret=>intro E H ρ h e s x dz H' K _ _ a S k j g A;simp only[comp,gK,jX.ok.injEq]at a;obtain⟨rfl,rfl,rfl⟩:=a;exact A s ρ e h j S g (gq.refl S)
 |scope c D=>exactλE H ρ h e s x dz H' K m hd a S k j g A=>D E H ρ h e s x dz H' K m hd a S k j g A
 |region id ops ad=>
  intro E H ρ h e s x dz H' K m hd a S k j g A;cases ad with
  |false=>simp only[comp,cond_false,mx.iy,gK]at m a;obtain⟨rfl,q⟩:=aan (b:=b) hC ops.toList E H ρ h e s x _ m a S k j g A;simp only[cB,N2,if_false];exact q
  |true=>simp only[comp,cond_true,mx.iy,gK]at m a;obtain⟨rfl,q⟩:=Q b d ops (cC id) E dz H H' ρ h e s x _ m hd a S k j g A;simp only[cB,if_true];exact q
 |rangeFunc f bc af ag _ _=>intro E H ρ h e s x dz H' K _ _ a;simp only[comp,gK]at a;cases a
 |goto l=>intro E H ρ h e s x dz H' K _ _ a;simp only[comp,gK]at a;cases a
 |refuse w=>intro E H ρ h e s x dz H' K _ _ a;simp only[comp,gK]at a;cases a
def CE(P:tb)(n:Nat):List awW->List (Nat×Option (Bool×Nat))->Prop
 | [],[]=>True
 | .tmp t::l,(u,o0)::m=>t=u/\t<n/\CE P n l m
 | .cell a t::l,(u,C (ag,k))::m=>a=u/\a<n/\fS P t=C (if ag then C k else o0)/\(ag=q9->k=1)/\CE P n l m
 |_,_=>False
def vQ(P:tb)(n:Nat):List awW->List (Nat×Option (Bool×Nat))->Bool
 | [],[]=>J
 | .tmp t::l,(u,o0)::m=>td t u&&Kf t n&&vQ P n l m
 | .cell a t::l,(u,C (ag,k))::m=>td a u&&Kf a n&&(match fS P t,ag with
   |some (C j),J=>td j k
   |some o0,q9=>td k 1
   |_,_=>q9)&&vQ P n l m
 |_,_=>q9
def Ho{n:Nat}:∀(l:List awW) (m:List (Nat×Option (Bool×Nat))),vQ P n l m=J->CE P n l m
 | [],[],_=>trivial
 | .tmp t::l,(u,o0)::m,h=>by simp only[vQ,vh]at h;exact⟨beq_eq h.1.1,rJ h.1.2,Ho l m h.2⟩
 | .cell a t::l,(u,C (ag,k))::m,h=>by
  simp only[vQ,vh]at h;obtain⟨⟨⟨h1,d⟩,b⟩,e⟩:=h;refine⟨beq_eq h1,rJ d,?_,?_,Ho l m e⟩
  .split at b
   .rename_i j c;rw[c,beq_eq b];rfl
   .rename_i c;rw[c];rfl
   .cases b
  .intro e0;subst e0;split at b
   .rename_i f;cases f
   .exact beq_eq b
   .cases b
 | [],_::_,h=>by cases h
 | .tmp _::_,[],h=>by cases h
 | .cell _ _::_,[],h=>by cases h
 | .tmp _::_,(_,C _)::_,h=>by cases h
 | .cell _ _::_,(_,o0)::_,h=>by cases h
def CF(S:cD P aQ ρ H.get H.an h)(j:lD ρ E e){m:Nat}(F:awW->Sem o5)(A:∀t,F (.tmp t)=pure ((avq (n:=m) λi=>e i).getD t vk))(p:∀a t,F (.cell a t)=do loadVar t (<- asAddr ((avq (n:=m) λi=>e i).getD a vk))):∀(l:List awW) (g:List (Nat×Option (Bool×Nat))) (k:List o5->Option (o5×aE)) (r:o5×aE),CE P m l g->qA E H g k=C r->∃x d,k x=C r/\cT ρ x d/\∀Q,aH P (l.mapM F) h Q=Q d h
 | [],[],k,r,_,b=>⟨[],[],b,.nil,λQ=>rfl⟩
 | .tmp t::l,(u,o0)::g,k,r,⟨h1,I,B⟩,b=>by subst h1;simp only[qA]at b;obtain⟨x,d,q,s,v⟩:=CF S j F A p l g _ r B b;refine⟨_,e t::d,q,.cons (j t) s,λQ=> ?_⟩;simp only[axP,aJ,aR,v,A];simp[aws,I]
 | .cell a t::l,(u,C (ag,n))::g,k,r,⟨h1,I,B,h4,N⟩,b=>by
  subst h1;simp only[qA]at b;split at b
  .rename_i c o he;have G:=j a;rw[he]at G;generalize R:e a=ea at G;cases G with
   |ptr o W=>
    rename_i bb kk;obtain⟨ws,K,D,L,X,f,y,k5⟩:=xK S W b;have M:((avq (n:=m) λi=>e i).getD a vk)=.pointer (C ⟨bb,o,o0⟩):=by simp[aws,I];exact R
    cases ag with
    |true=>simp only at D;obtain⟨x,d,q,s,v⟩:=CF S j F A p l g _ r N D;refine⟨_,.agg ⟨K⟩::d,q,.cons (.agg L) s,λQ=> ?_⟩;simp only[axP,p,aJ,aR,v,M,asAddr,rF,B,if_true,pB,f]
    |false=>
     have:=h4 rfl;subst this
     match ws,K,L,X with
     | [w],[w'],.cons hw _,_=>
      simp only at D;obtain⟨x,d,q,s,v⟩:=CF S j F A p l g _ r N D;refine⟨_,w'::d,q,.cons hw s,λQ=> ?_⟩;have hc:h.cell? ⟨bb,o,o0⟩=C w':=by
       rw[pG]at f;cases hc:h.cell? ⟨bb,o+0,o0⟩with
       |none=>rw[hc]at f;simp[qB]at f
       |some z=>rw[hc]at f;simp only[zQ,qB,Option.some.injEq,List.cons.injEq,and_true]at f;subst f;rfl
      simp only[axP,p,aJ,aR,v,M,asAddr,rF,B,N2,if_false,pB,hc]
  .cases b
 | [],_::_,_,_,h,_=>h.elim
 | .tmp _::_,[],_,_,h,_=>h.elim
 | .cell _ _::_,[],_,_,h,_=>h.elim
 | .tmp _::_,(_,C _)::_,_,_,h,_=>h.elim
 | .cell _ _::_,(_,o0)::_,_,_,h,_=>h.elim
def Pl:∀(b1:List o5) (i:Nat) (E:cL) (t:Nat),(sN i b1 E).rd t=if i<=t/\t<i+b1.length then b1.getD (t- i) vk else E.rd t
 | [],i,E,t=>by rw[sN,if_neg Y]
 |v::l,i,E,t=>by
  rw[sN];show(sL E (C i) v (λe=>sN (i+1) l e)).rd t=_;rw[oU,Pl l (i+1),Ac];simp only[RF];by_cases h1:t=i
  .subst h1;rw[if_neg U,if_pos rfl,if_pos U];simp
  .by_cases a:i+1<=t/\t<i+1+l.length
   .rw[if_pos a,if_pos U,(U:t- i=(t- (i+1))+1)];simp
   .rw[if_neg a,if_neg h1,if_neg U]
def aao(b1:List o5)(t:Nat):dC b1 t=b1.getD t vk:=rfl
def cT.getD{l b:List o5}(c:cT ρ l b)(t:Nat):bj ρ (l.getD t vk) (b.getD t vk):=by
 induction l generalizing b t with
 |nil=>cases c;simpa using bj.undef
 |cons a l d=>cases c with|cons x y=>cases t with|zero=>exact x|succ t=>simpa using d y t
def Hp{b1 a:List o5}(b:cT ρ b1 a):lD ρ (sN 0 b1 .nil) (dC a):=by
 intro t;rw[Pl,aao];by_cases c:t<b1.length
 .rw[if_pos ⟨awu _,U⟩];exact b.getD t
 .rw[if_neg U];have:a.getD t vk=vk:=by rw[List.getD_eq_getElem?_getD,List.getElem?_eq_none (by rw[b.length];omega)];rfl
  rw[this];exact bj.undef
structure Pm(P:tb)(aQ:Nat)(f:vb)(F:vz):Prop where
 ex:∃fn c cC,P.funcs[f]? =C fn/\fn.body=C c/\fn.ntmps=F.n/\fN F.n c=J/\comp P cC c=F.body/\F.body.iy aQ=J/\iJ P cC c=J/\vQ P F.n fn.results.toList F.res=J
 ck:bz P f=J
def aap(g:vb->Option vz)(orc:vb->List o5->aE->Option (Option (o5×aE)))(M:∀f F,g f=C F->Pm P aQ f F)
  (N:qH P main Sy Jz aQ λf b1 H=>match orc f b1 H with|some r=>r|none=>o0) (Q:∀m,qH P main Sy Jz aQ (eP g orc m)->CB P main Sy Jz aQ (eP g orc m)):∀m,qH P main Sy Jz aQ (eP g orc m):=by
 intro m
 induction m with
 |zero=>intro f b1 v H H' b;cases b
 |succ m E=>
  intro f b1 v H H' b ρ h o s S q G I;simp only[eP]at b;split at b
  .rename_i r R;exact N f b1 v H H' (by simp only[R];exact b) ρ h o s S q G I
  .split at b
   .cases b
   .rename_i F W;obtain⟨⟨fn,c,cC,da,dQ,f3,f4,f5,K,f8,f7⟩,ck⟩:=M f F W;refine⟨ck,?_⟩;cases z:vd b1.length F.n with
    |false=>rw[z]at b;cases b
    |true=>
     rw[z,cond_true]at b;have key:∀(x:eM) (j:cL) (d:aE),(x=.cx\/x=.ret)->gK (eP g orc m) F.body (sN 0 b1 .nil) H=.ok x j d->(qA j d F.res λvs=>match vs with|[v]=>C (v,d)|vs=>C (.tuple ⟨vs⟩,d))=C (v,H')->
       bo P main Sy f ⟨o⟩ s h λl h' A=>Jz l/\∃bq,cD P aQ bq H'.get H'.an h'/\bj bq v A/\gq H ρ h H' bq h':=by
      intro x j d X k ab;refine bL (args:=o) da dQ f3 (by rw[q.length];exact fZ z) f4 ?_;rw[<- f5]at k K;refine CC E (Q m E) cC c _ H ρ h (dC o) s x j d _ K f8 k S G I (Hp q) λl bq B h' u p q3 y=> ?_;let FF:awW->Sem o5:=λ
       | .tmp t=>pure ((avq (n:=F.n) λi=>B i).getD t vk)
       | .cell a t=>do loadVar t (<- asAddr ((avq (n:=F.n) λi=>B i).getD a vk))
      obtain⟨vs,ag,e,k2,k3⟩:=CF p q3 (m:=F.n) FF (λ_=>rfl) (λ_ _=>rfl) fn.results.toList F.res _ _ (Ho _ _ f7) ab;have L:dT P fn (λl h' A=>Jz l/\∃bq,cD P aQ bq H'.get H'.an h'/\bj bq v A/\gq H ρ h H' bq h') F.n B [] l h':=by
       simp only[dT,jU,results,aJ,Array.mapM_eq_mapM_toList,Gy];refine(k3 _).mpr ?_;simp only[aR]
       match vs,ag,k2,e with
       | [],[],.nil,e=>cases e;exact⟨u,bq,p,.tuple .nil,y⟩
       | [w],[w'],.cons D .nil,e=>cases e;exact⟨u,bq,p,D,y⟩
       |w1::w2::ws,bl::bm::bn,D,e=>cases e;exact⟨u,bq,p,.tuple D,y⟩
      rcases X with rfl|rfl
      .exact L
      .exact L
     split at b
     .cases b
     .rename_i x j d a7 k;cases x with
      |ext i=>exact absurd rfl (a7 i)
      |cx=>exact key _ _ _ (.inl rfl) k b
      |ret=>exact key _ _ _ (.inr rfl) k b
     .cases b
end
def CG:∀(l:List sa) (i:Nat),l5 i l=J->∀(j:Nat) (o:sa),l[j]? =C o->∀x∈o.after,atV .any x=J->x.on<i+j
 | [],i,_,j,o,a,_,_,_=>by simp at a
 |aB::l,i,b,j,o,a,x,c,hb=>by
  simp only[l5,vh]at b;cases j with
  |zero=>simp at a;subst a;have:=G0.1 b.1 x (by simpa using c);rw[hb]at this;exact rJ (by simpa using this)
  |succ j=>have:=CG l (i+1) b.2 j o (by simpa using a) x c hb;omega
section
variable{P:tb}{main:Bool}{ai:Type}{Sy:Sys ai}{b:aS}{d:List tc}{ops:Array sa}{N:Env->List tc->ai->ae->Prop}
def vR{o:sa}{e:Env}{d:List tc}{s:ai}{h:ae}{N M:Env->List tc->ai->ae->Prop}(cr:∀e d s h,N e d s h->M e d s h)(u:mW P main Sy b o e d s h N):mW P main Sy b o e d s h M:=u.imp (λu=>⟨u.1,lq P _ (λan h u=>by
  cases an<;>first
   |exact cr _ _ _ _ u
   |exact bo.mono (λ_ _ _=>cr _ _ _ _) u
   |exact ki.mono (λ_ _ _=>cr _ _ _ _) u
   |exact u) u.2⟩) (lv.mono λ_ _ _=>cr _ _ _ _)
def ju(l:Array Bool)(i:Nat):Bool:=l.getD i q9
def jT(n:Nat)(l:Array Bool):Nat:=((atG n).filter λi=> !ju l i).length
def aaq{n:Nat}{l:Array Bool}(hs:l.size=n){i:Nat}(hi:i<n)(c:ju l i=q9):jT n (l.setIfInBounds i J)<jT n l:=by
 unfold jT;have m:∀(q:List Nat),(q.filter λj=> !ju (l.setIfInBounds i J) j).length<=(q.filter λj=> !ju l j).length/\(i∈q->(q.filter λj=> !ju (l.setIfInBounds i J) j).length<(q.filter λj=> !ju l j).length):=by
  intro q
  induction q with
  |nil=>simp
  |cons a q d=>
   have e:a≠i->ju (l.setIfInBounds i J) a=ju l a:=λf=>by simp[ju,auZ,avD (Ne.symm f)]
   have g:ju (l.setIfInBounds i J) i=J:=by simp[ju,auZ,hs,hi]
   by_cases b:a=i
   .subst b;simp only[aBt,g,c,avO,Bool.not_false,if_true,N2,if_false,RF];exact⟨U,λ_=>by omega⟩
   .simp only[aBt,e b];refine⟨?_,λo=> ?_⟩
    .split<;>(try simp only[RF])<;>omega
    .have k:i∈q:=by
      rcases B4.1 o with h|h
      .exact absurd h.symm b
      .exact h
     have:=d.2 k;split<;>(try simp only[RF])<;>omega
 exact(m _).2 (by simpa using hi)
def uu(he:l5 0 ops.toList=J)(Inv:(Nat->Bool)->Env->ai->ae->Prop)
  (E:∀D F e s h,(∀i,i<ops.size->D i=F i)->Inv D e s h->Inv F e s h)
  (step:∀D e s h i o,Inv D e s h->i<ops.size->D i=q9->ops[i]? =C o->(∀x∈o.after,atV .any x=J->D x.on=J)->if Region.wanted o (jV ops e)=J then mW P main Sy b o e d s h (λe G s h=>G=d/\Inv (λj=>if j=i then J else D j) e s h)else Inv (λj=>if j=i then J else D j) (b7 e o.dst vk) s h)
  (Q:∀D e s h,Inv D e s h->(∀i,i<ops.size->D i=J)->N e d s h) {e:Env} {s:ai} {h:ae} (h0:Inv (λ_=>q9) e s h) (t:Nat):
  fO P main Sy b ops (azS .any ops t) e d s h N:=by
 have split:∀(l m:List Nat) (e:Env) (s:ai) (h:ae) (M:Env->List tc->ai->ae->Prop) (d:List tc),fO P main Sy b ops (l++m) e d s h M=fO P main Sy b ops l e d s h λe d s h=>fO P main Sy b ops m e d s h M:=by
  intro l
  induction l with
  |nil=>intros;rfl
  |cons i l g=>
   intro m e s h M d;simp only[List.cons_append,fO];cases ops[i]? with
   |none=>simp only[g]
   |some o=>simp only[g]
 have key:∀(fuel t:Nat) (listed:Array Bool) (e:Env) (s:ai) (h:ae),listed.size=ops.size->jT ops.size listed<=fuel->Inv (ju listed) e s h->∃l,(∀c,avP .any ops fuel t listed c=c.reverse++l)/\fO P main Sy b ops l e d s h N:=by
  intro fuel
  induction fuel with
  |zero=>
   intro t listed e s h hs hu p;refine⟨[],λc=>by simp[avP],Q _ e s h p λi hi=> ?_⟩;cases f:ju listed i with
   |true=>rfl
   |false=>
    exfalso;have:0<jT ops.size listed:=by unfold jT;refine List.length_pos_of_mem (a:=i) ?_;simp[hi,f]
    omega
  |succ fuel g=>
   intro t listed e s h hs hu p;have z:∀c,avP .any ops (fuel+1) t listed c=(match((atG ops.size).filter λi=>
    !listed.getD i J&&((ops[i]?).map (·.after.all λe=> !atV .any e||listed.getD e.on q9)).getD q9)[t%((atG ops.size).filter λi=>
    !listed.getD i J&&((ops[i]?).map (·.after.all λe=> !atV .any e||listed.getD e.on q9)).getD q9).length]? with
    |some i=>avP .any ops fuel (t/((atG ops.size).filter λi=>
    !listed.getD i J&&((ops[i]?).map (·.after.all λe=> !atV .any e||listed.getD e.on q9)).getD q9).length) (listed.setIfInBounds i J) (i::c)
    |none=>c.reverse):=λc=>by rw[avP];rfl
   generalize H:((atG ops.size).filter λi=>!listed.getD i J&&((ops[i]?).map (·.after.all λe=> !atV .any e||listed.getD e.on q9)).getD q9)=rs at z
   cases n:rs[t%rs.length]? with
   |none=>
    refine⟨[],λc=>by rw[z,n];simp,Q _ e s h p ?_⟩;have S:rs=[]:=by
     cases rs with
     |nil=>rfl
     |cons a r=>have:t%(a::r).length<(a::r).length:=Nat.mod_lt _ Y;rw[Q4 this]at n;cases n
    intro i
    induction i using Nat.strongRecOn with
    |ind i W=>
     intro hi;cases f:ju listed i with
     |true=>rfl
     |false=>
      exfalso;have k:i∈rs:=by
       rw[<- H];simp only[aw0,au9,hi,true_and,vh,avp];refine⟨?_,?_⟩
       .have:i<listed.size:=U
        simp only[ju,aws,this,dif_pos]at f ⊢;exact f
       .rw[aul hi];simp only[avb,auS];rw[aBu];intro x A;cases hb:atV .any x with
        |false=>rfl
        |true=>have a6:=CG ops.toList 0 he i ops[i] (by simp[hi]) x A hb;simp only[avO,awc];exact W x.on U U
      rw[S]at k;cases k
   |some i=>
    have k:i∈rs:=List.mem_of_getElem? n;rw[<- H]at k;simp only[aw0,au9,vh,avp]at k;obtain⟨hi,h1,v⟩:=k;have I:i<listed.size:=U
    have K:ju listed i=q9:=by simp only[ju,aws,I,dif_pos]at h1 ⊢;exact h1
    rw[aul hi]at v;simp only[avb,auS]at v;rw[aBu]at v;have L:ops[i]? =C ops[i]:=aul hi;have u:=step _ e s h i ops[i] p hi K L λx A hb=>by have:=v x A;rw[hb]at this;simpa[ju]using this
    have X:∀e s h,Inv (λj=>if j=i then J else ju listed j) e s h->Inv (ju (listed.setIfInBounds i J)) e s h:=λe s h q=>E _ _ e s h (λj hj=>by
     by_cases w:j=i
     .subst w;simp[ju,auZ,I]
     .simp[ju,w,auZ,avD (Ne.symm w)]) q
    have a8:=aaq hs hi K;have ab:∀e s h,Inv (λj=>if j=i then J else ju listed j) e s h->∃l,(∀c,avP .any ops fuel (t/rs.length) (listed.setIfInBounds i J) c=c.reverse++l)/\fO P main Sy b ops l e d s h N:=λe s h q=>g (t/rs.length) (listed.setIfInBounds i J) e s h (by simp[hs]) U (X e s h q)
    obtain⟨l,f⟩:∃l,∀c,avP .any ops fuel (t/rs.length) (listed.setIfInBounds i J) c=c.reverse++l:=by
     have az:∀(fuel t:Nat) (listed:Array Bool),∃l,∀c,avP .any ops fuel t listed c=c.reverse++l:=by
      intro fuel
      induction fuel with
      |zero=>exactλt listed=>⟨[],λc=>by simp[avP]⟩
      |succ fuel g=>
       intro t listed;simp only[avP];split
       .rename_i R _;obtain⟨l,f⟩:=g (t/_) (listed.setIfInBounds R J);exact⟨R::l,λc=>by rw[f];simp⟩
       .exact⟨[],λc=>by simp⟩
     exact az _ _ _
    have same:∀e s h,Inv (λj=>if j=i then J else ju listed j) e s h->fO P main Sy b ops l e d s h N:=λe s h q=>by obtain⟨l',ad,y⟩:=ab e s h q;have:=(f []).symm.trans (ad []);simp at this;subst this;exact y
    refine⟨i::l,λc=>by rw[z,n];simp only;rw[f];simp,?_⟩;rw[fO,L];simp only;split
    .rename_i B;rw[if_pos B]at u;exact vR (λe G s h ⟨hd,q⟩=>by subst hd;exact same e s h q) u
    .rename_i B;rw[if_neg B]at u;exact same _ _ _ u
 obtain⟨l,f,y⟩:=key ops.size t (Array.replicate ops.size q9) e s h Y (by unfold jT;refine atD (List.length_filter_le _ _) Y) (E _ _ e s h (λi hi=>by simp[ju,auZ,hi]) h0)
 have:azS .any ops t=l:=by unfold azS;rw[f];simp
 rw[this];exact y
end
structure Can(H H':aE):Prop where
 an:H.an<=H'.an
 cg:H'.cg=H.cg
 bQ:H'.bQ=H.bQ
 can:∀c,(c<H.an\/H'.an<=c)->¬gL H c->H'.t.get c=H.t.get c
def Can.refl(H:aE):Can H H:=⟨vr _,rfl,rfl,λ_ _ _=>rfl⟩
def Can.trans{a b c:aE}(h:Can a b)(k:Can b c):Can a c:=by have l:=h.an;have m:=k.an;refine⟨atD h.an k.an,k.cg.trans h.cg,k.bQ.trans h.bQ,λd hd g=> ?_⟩;have e:=h.can d U g;rw[k.can d U (λi=>g ?_),e];obtain⟨h1,x,f,j⟩:=i;refine⟨by rw[<- h.cg];exact h1,x,?_,j⟩;rw[aE.get_eq]at f ⊢;rw[h.bQ,e]at f;exact f
def Can.set{H:aE}{c:Nat}{x y:cj}(a:H.get c=C x)(b:vd H.cg c=J)(f:x.live=J):Can H (H.set c y):=by refine⟨vr _,rfl,rfl,λd hd g=> ?_⟩;rw[aE.vM,if_neg (λe=>g (by subst e;exact Cm b a f))]
def Can.new(H:aE)(y:cj):Can H (H.new y):=by refine⟨Nat.le_succ _,rfl,rfl,λd hd a=> ?_⟩;have:d<H.an\/H.an+1<=d:=hd;rw[aE.ug,if_neg U]
def gL.can{a b:aE}(h:Can a b){c:Nat}(hc:c<a.an)(f:gL b c):gL a c:=by refine Classical.byContradiction λe=>e ?_;obtain⟨h1,x,d,g⟩:=f;refine⟨by rw[<- h.cg];exact h1,x,?_,g⟩;rw[aE.get_eq]at d ⊢;rw[h.bQ,h.can c (.inl hc) e]at d;exact d
def rL(call:vb->List o5->aE->Option (o5×aE)):Prop:=∀f b1 v H H',call f b1 H=C (v,H')->Can H H'
section
variable{H H':aE}{call:vb->List o5->aE->Option (o5×aE)}{E dz:cL}{v:o5}
def xQ{β:Type}{b o n:Nat}{k:List o5->Option β}{r:β}(a:pE H b o n k=C r):∃vs,k vs=C r:=by obtain⟨_,_,_,_,_,_,h⟩:=OI a;exact⟨_,h⟩
def vS{β:Type}{b o:Nat}{vs:List o5}{k:aE->Option β}{r:β}(a:sK H b o vs k=C r):∃y,k (H.set b y)=C r/\Can H (H.set b y):=by
 unfold sK at a;split at a
 .rename_i lo t cs f;cases c:vd H.cg b with
  |false=>rw[c]at a;cases a
  |true=>
   rw[c,cond_true]at a;cases d:pD vs with
   |false=>rw[d]at a;cases a
   |true=>rw[d,cond_true]at a;obtain⟨_,e⟩:=xI _ _ _ _ _ a;rw[aE.nB]at e;exact⟨_,e,Can.set f c rfl⟩
 .cases a
def kp{c:Bool}{β:Type}{a:Option β}{r:β}(b:cond c a o0=C r):c=J/\a=C r:=by cases c with|true=>exact⟨rfl,b⟩|false=>cases b
def uv{c:Bool}{β:Type}{a b:Option β}{r:β}(d:cond c a b=C r):(c=J/\a=C r)\/(c=q9/\b=C r):=by cases c with|true=>exact .inl ⟨rfl,d⟩|false=>exact .inr ⟨rfl,d⟩
def Hq{β:Type}{k:List o5->Option β}{r:β}:∀(l:List (Nat×Nat×su)) (cs:List o5),vE E cs l k=C r->∃c,k c=C r
 | [],cs,a=>⟨cs,a⟩
 | (o,n,x)::l,cs,a=>by simp only[vE]at a;obtain⟨_,a⟩:=kp a;obtain⟨_,a⟩:=xI _ _ _ _ _ a;exact Hq l _ a
def aar{op:BinOp}{e:BT}{x y:o5}(a:tY op e x y (λv=>C (v,H))=C (v,H')):H'=H:=by
 have d:∀{k n},pF k n (λv=>C (v,H))=C (v,H')->H'=H:=λh=>by have:=pH h;cases this;rfl
 have c:∀{b},my b (λv=>C (v,H))=C (v,H')->H'=H:=λh=>by have:=nC h;cases this;rfl
 unfold tY at a;split at a
 .split at a
  .split at a
   .split at a
    .exact d (kp a).2
    .cases a
   .split at a
    .have:=(kp a).2;rw[jI]at this;cases this;rfl
    .cases a
   .have a:=(kp a).2;split at a
    .exact d a
    .exact d a
    .exact d a
    .exact c a
    .exact c a
    .exact c a
    .exact c a
    .exact c a
    .exact c a
    .split at a
     .rcases uv a with⟨_,a⟩|⟨_,a⟩
      .cases a
      .rw[jI]at a;cases a;rfl
     .cases a
    .split at a
     .rcases uv a with⟨_,a⟩|⟨_,a⟩
      .cases a
      .exact d a
     .cases a
    .split at a
     .exact d a
     .cases a
    .split at a
     .exact d a
     .cases a
    .cases a
  .cases a
 .split at a
  .split at a<;>first|exact c a|cases a
  .cases a
 .split at a
  .split at a<;>first|exact c a|cases a
  .cases a
 .split at a
  .split at a<;>first|exact c a|cases a
  .cases a
 .split at a
  .have a:=(kp a).2;split at a
   .split at a<;>first|exact c a|cases a
   .cases a
  .cases a
 .cases a
def uw(hc:rL call){op:dh}(a:cy call E H op=C (v,H')):Can H H':=by
 have same:H'=H->Can H H':=λe=>by subst e;exact .refl _
 have g:∀{y:cj} {f:Nat->o5},H.pC y (λn H=>C (f n,H))=C (v,H')->Can H H':=λh=>by rw[aE.qD]at h;cases h;exact Can.new _ _
 unfold cy at a;simp only at a;split at a
 .cases a;exact .refl _
 .split at a<;>first|(cases a;exact .refl _)|cases a
 .exact g a
 .exact g (kp a).2
 .obtain⟨c,a⟩:=Hq _ _ a;cases a;exact .refl _
 .obtain⟨c,a⟩:=Hq _ _ a;exact g a
 .split at a
  .obtain⟨c,a⟩:=xQ a;split at a<;>first|(cases a;exact .refl _)|cases a
  .cases a
 .split at a
  .obtain⟨c,a⟩:=xQ a;cases a;exact .refl _
  .cases a
 .split at a
  .obtain⟨y,a,d⟩:=vS (kp a).2;cases a;exact d
  .cases a
 .split at a<;>first|(cases a;exact .refl _)|cases a
 .exact same (aar a)
 .split at a<;>first|(cases a;exact .refl _)|(have:=pH a;cases this;exact .refl _)|cases a
 .split at a<;>first|(have:=pH a;cases this;exact .refl _)|cases a
 .cases a;exact .refl _
 .cases a;exact .refl _
 .exact g a
 .split at a
  .exact g (kp a).2
  .cases a
 .split at a
  .split at a
   .split at a
    .have a:=(kp a).2;rw[vL]at a;obtain⟨_,a⟩:=xG _ _ _ _ a;cases a;exact .refl _
    .cases a
   .cases a
  .cases a
 .split at a
  .split at a
   .split at a
    .split at a
     .split at a
      .simp only[jI]at a;rcases uv a with⟨_,a⟩|⟨_,a⟩<;>(cases a;exact .refl _)
      .cases a
     .cases a
    .cases a
   .cases a
  .split at a<;>first|(cases a;exact .refl _)|cases a
  .cases a
 .split at a
  .split at a
   .split at a
    .split at a
     .have a:=(kp a).2;simp only[jI]at a;rcases uv a with⟨_,a⟩|⟨_,a⟩<;>(cases a;exact .refl _)
     .cases a
    .cases a
   .cases a
  .cases a
 .split at a
  .rw[jI]at a;cases a;exact .refl _
  .cases a
 .split at a
  .have a:=(kp a).2;rw[jI]at a;cases a;exact .refl _
  .cases a
 .split at a
  .have a:=(kp a).2;rw[jI]at a;cases a;exact .refl _
  .cases a
 .split at a
  .have a:=(kp a).2;unfold GU at a;split at a
   .rw[vL]at a;obtain⟨_,a⟩:=xG _ _ _ _ a;cases a;exact .refl _
   .split at a<;>first|(cases a;exact .refl _)|cases a
  .cases a
 .split at a
  .split at a
   .rw[jI]at a;cases a;exact .refl _
   .cases a
  .cases a
 .split at a
  .split at a
   .split at a
    .split at a<;>(cases a;exact .refl _)
    .split at a<;>(cases a;exact .refl _)
    .cases a
   .cases a
  .cases a
 .split at a
  .split at a
   .rename_i i;obtain⟨p,a⟩:=kp a;split at a
    .rw[aE.nB]at a;cases a;exact Can.set i p rfl
    .rw[aE.nB]at a;cases a;exact Can.set i p rfl
    .cases a
   .cases a
  .cases a
 .split at a
  .split at a<;>first|(cases a;exact .refl _)|cases a
  .cases a
 .exact hc _ _ _ _ _ a
 .split at a
  .exact hc _ _ _ _ _ a
  .cases a
 .split at a
  .rw[jI]at a;cases a;exact .refl _
  .cases a
 .split at a
  .rw[jI]at a;cases a;exact .refl _
  .cases a
 .cases a;exact .refl _
 .split at a
  .rcases uv a with⟨_,a⟩|⟨_,a⟩<;>(cases a;exact .refl _)
  .cases a
 .split at a
  .rename_i bE m c2 s;have key:∀{q:Nat} {j:List o5->Option (o5×aE)},((match bE with
    |some ⟨b,o,o0⟩=>pE H b o (m*q)
    |_=>λk=>cond (td m 0) (k []) o0) j)=C (v,H')->∃r,j r=C (v,H'):=by
    intro q j l;split at l
    .exact xQ l
    .exact⟨_,(kp l).2⟩
   obtain⟨r,a⟩:=key a;split at a
   .split at a
    .cases a;exact .refl _
    .exact g (kp a).2
   .rw[jI]at a;have a:=(kp a).2;rcases uv a with⟨_,a⟩|⟨_,a⟩
    .split at a
     .rename_i i;rcases uv a with⟨_,a⟩|⟨_,a⟩
      .obtain⟨y,a,d⟩:=vS (kp a).2;cases a;exact d
      .obtain⟨hd,a⟩:=kp a;rw[aE.nB,aE.qD]at a;simp only[vh]at hd;cases a;exact(Can.set i hd.1.1.1.2 rfl).trans (Can.new _ _)
     .cases a
    .rcases uv a with⟨_,a⟩|⟨_,a⟩
     .obtain⟨y,a,d⟩:=vS a;cases a;exact d
     .obtain⟨t,a⟩:=xQ a;exact g a
   .cases a
  .cases a
 .split at a
  .rw[jI]at a;obtain⟨c,a⟩:=xQ a;obtain⟨y,a,d⟩:=vS a;cases a;exact d
  .cases a
 .split at a
  .cases a;exact .refl _
  .obtain⟨y,a,d⟩:=vS a;cases a;exact d
  .cases a
 .cases a
def Hr{b:Nat}:∀(g:List (Nat×Nat×Nat)) (l:List (Nat×Nat)) (c:Nat),c9 (lX b g l) c=J↔c9 l c=J\/∃k lo hi,(k,lo,hi)∈g/\atE b k=q9/\lo<=c/\c<hi
 | [],l,c=>by simp[lX]
 | (i,lo,hi)::r,l,c=>by
  have f:=Hr (b:=b) r l c;simp only[lX];cases hc:(atE b i||td lo hi)with
  |true=>
   rw[cond_true,f];constructor
   .rintro(h|⟨k,p,q,h1,a,d⟩)
    .exact .inl h
    .exact .inr ⟨k,p,q,avz _ h1,a,d⟩
   .rintro(h|⟨k,p,q,h1,a,d,m⟩)
    .exact .inl h
    .rcases B4.1 h1 with e|e
     .have n:k=i/\p=lo/\q=hi:=by simpa using e
      rw[n.1]at a;rw[a,awc]at hc;have:=beq_eq hc;omega
     .exact .inr ⟨k,p,q,e,a,d,m⟩
  |false=>
   simp only[Bool.or_eq_false_iff]at hc;rw[cond_false];have j:c9 ((lo,hi)::lX b r l) c=J↔(lo<=c/\c<hi)\/c9 (lX b r l) c=J:=by
    simp only[c9];cases h1:vd lo c with
    |false=>
     have:¬lo<=c:=λh=>by rw[aus h]at h1;cases h1
     rw[cond_false];simp[this]
    |true=>
     have o:=fZ h1;rw[cond_true];cases a:vd hi c with
     |true=>have:=fZ a;rw[cond_true];simp;omega
     |false=>
      have:¬hi<=c:=λh=>by rw[aus h]at a;cases a
      rw[cond_false];simp;omega
   rw[j,f];constructor
   .rintro(h|h|⟨k,p,q,h1,a,d⟩)
    .exact .inr ⟨i,lo,hi,awE,hc.1,h⟩
    .exact .inl h
    .exact .inr ⟨k,p,q,avz _ h1,a,d⟩
   .rintro(h|⟨k,p,q,h1,a,d⟩)
    .exact .inr (.inl h)
    .rcases B4.1 h1 with e|e
     .cases e;exact .inl d
     .exact .inr (.inr ⟨k,p,q,e,a,d⟩)
def Hs{bef:List Nat}{e:cL}{i:Nat}:∀(cC:List (Nat×Nat)) (l:List (Nat×Nat)) (c:Nat),c9 (lA bef e i cC l) c=J↔c9 l c=J\/∃k w,(k,w)∈cC/\lz bef i k=J/\nA (e.rd w)=C c
 | [],l,c=>by simp[lA]
 | (k,w)::r,l,c=>by
  have f:=Hs (bef:=bef) (e:=e) (i:=i) r l c;simp only[lA];cases g:lz bef i k with
  |false=>
   rw[cond_false,f];constructor
   .rintro(h|⟨k',w',h1,a⟩)
    .exact .inl h
    .exact .inr ⟨k',w',avz _ h1,a⟩
   .rintro(h|⟨k',w',h1,a,d⟩)
    .exact .inl h
    .rcases B4.1 h1 with b|b
     .cases b;rw[g]at a;cases a
     .exact .inr ⟨k',w',b,a,d⟩
  |true=>
   rw[cond_true];cases hb:nA (e.rd w)with
   |none=>
    simp only;rw[f];constructor
    .rintro(h|⟨k',w',h1,a⟩)
     .exact .inl h
     .exact .inr ⟨k',w',avz _ h1,a⟩
    .rintro(h|⟨k',w',h1,a,d⟩)
     .exact .inl h
     .rcases B4.1 h1 with b|b
      .cases b;rw[hb]at d;cases d
      .exact .inr ⟨k',w',b,a,d⟩
   |some B=>
    simp only;have j:c9 ((B,B+1)::lA bef e i r l) c=J↔c=B\/c9 (lA bef e i r l) c=J:=by
     simp only[c9];cases h1:vd B c with
     |false=>
      have:¬B<=c:=λh=>by rw[aus h]at h1;cases h1
      rw[cond_false];simp;omega
     |true=>
      have m:=fZ h1;rw[cond_true];cases a:vd (B+1) c with
      |true=>have:=fZ a;rw[cond_true];simp;omega
      |false=>
       have:¬B+1<=c:=λh=>by rw[aus h]at a;cases a
       rw[cond_false];simp;omega
    rw[j,f];constructor
    .rintro(h|h|⟨k',w',h1,a⟩)
     .subst h;exact .inr ⟨k,w,awE,g,hb⟩
     .exact .inl h
     .exact .inr ⟨k',w',avz _ h1,a⟩
    .rintro(h|⟨k',w',h1,a,d⟩)
     .exact .inr (.inl h)
     .rcases B4.1 h1 with b|b
      .cases b;rw[hb]at d;cases d;exact .inl rfl
      .exact .inr (.inr ⟨k',w',b,a,d⟩)
def CH{H Vz a:aE}(b:Vz.t=H.t)(d:Vz.an=H.an)(hh:∀c,c9 Vz.bQ c=q9->c9 H.bQ c=q9)(e:H.cg<=Vz.cg)(k:Can Vz a):Can H {a with cg:=H.cg,bQ:=H.bQ}:=by
 refine⟨by rw[<- d];exact k.an,rfl,rfl,λc hc j=> ?_⟩;show a.t.get c=H.t.get c;rw[<- b];refine k.can c (by rw[d];exact hc) λf=>j ?_;obtain⟨h1,x,l,m⟩:=f;have g:H.get c=C x:=by obtain⟨h,i⟩:=aE.get_some l;rw[aE.get_eq,hh c h,<- b,i];rfl
 exact⟨atD e h1,x,g,m⟩
def aas(hc:rL call){x:eM}:∀(l:List mY) (E:cL) (H:aE),ix call l E H=.ok x dz H'->Can H H':=by
 intro l
 induction l with
 |nil=>intro E H a;simp only[ix,jX.ok.injEq]at a;obtain⟨_,_,rfl⟩:=a;exact .refl _
 |cons o l b=>
  intro E H a;simp only[ix]at a;cases c:ko E o.g with
  |true=>
   rw[c,cond_true]at a;split at a
   .rename_i v e d;rw[oU]at a;exact(uw hc d).trans (b _ _ a)
   .cases a
  |false=>rw[c,cond_false,oU]at a;exact b _ _ a
def aat(hc:rL call){x:eM}{bef:List Nat}{cC:List (Nat×Nat)}{e:Nat->Bool}:∀(l:List mY) (i:Nat) (bs:List Nat) (d:List (Nat×Nat×Nat)) (E:cL) (H:aE),oR call bef cC e i l bs d E H=.ok x dz H'->Can H H':=by
 intro l
 induction l with
 |nil=>intro i bs d E H a;simp only[oR,jX.ok.injEq]at a;obtain⟨_,_,rfl⟩:=a;exact .refl _
 |cons o l j=>
  intro i bs d E H a;cases bs with
  |nil=>simp only[oR]at a;cases a
  |cons b bs=>
   have p:∀c,c9 (lX b d (lA bef E i cC H.bQ)) c=q9->c9 H.bQ c=q9:=λc m=>by
    cases s:c9 H.bQ c with
    |false=>rfl
    |true=>rw[(Hr d _ c).2 (.inl ((Hs cC H.bQ c).2 (.inl s)))]at m;cases m
   simp only[oR]at a;cases r:ko E o.g with
   |true=>
    rw[r,cond_true]at a;split at a
    .split at a
     .rename_i v f k;rw[oU]at a;refine(CH (H:=H) (Vz:= {H with cg:=cond (e i) H.cg (cond (vd H.an H.cg) H.cg H.an),bQ:=lX b d (lA bef E i cC H.bQ)}) rfl rfl p ?_ (uw hc k)).trans (j _ _ _ _ _ a);show H.cg<=cond (e i) H.cg (cond (vd H.an H.cg) H.cg H.an);cases e i with
      |true=>exact vr _
      |false=>
       rw[cond_false];cases hb:vd H.an H.cg with
       |true=>exact vr _
       |false=>
        have:¬H.an<=H.cg:=λh=>by rw[aus h]at hb;cases hb
        rw[cond_false];omega
     .cases a
    .cases n:vI E _ o.op with
     |false=>rw[n]at a;cases a
     |true=>
      rw[n,cond_true]at a;split at a
      .rename_i v f k;rw[oU]at a;have q:=uw hc k;have:=CH (H:=H) (Vz:= {H with bQ:=lX b d (lA bef E i cC H.bQ)}) rfl rfl p (vr _) q;have t:f.cg=H.cg:=q.cg;have u: {f with bQ:=H.bQ}=({f with cg:=H.cg,bQ:=H.bQ}:aE):=by rw[<- t]
       rw[<- u]at this;exact this.trans (j _ _ _ _ _ a)
      .cases a
   |false=>rw[r,cond_false,oU]at a;exact j _ _ _ _ _ a
def Pn(hc:rL call):∀(c:mx) (E:cL) (H:aE) (x:eM) (dz:cL) (H':aE),gK call c E H=.ok x dz H'->Can H H':=by
 intro c
 induction c with
 |skip=>intro E H x dz H' d;simp only[gK,jX.ok.injEq]at d;obtain⟨_,_,rfl⟩:=d;exact .refl _
 |seq a b f g=>
  intro E H x dz H' d;simp only[gK]at d;split at d
  .rename_i h j h1;exact(f _ _ _ _ _ h1).trans (g _ _ _ _ _ d)
  .exact f _ _ _ _ _ d
 |cond t a b f g=>
  intro E H x dz H' d;simp only[gK]at d;split at d
  .exact f _ _ _ _ _ d
  .exact g _ _ _ _ _ d
  .cases d
 |block id a e=>
  intro E H x dz H' d;simp only[gK]at d;split at d
  .rename_i i h j h1;have:=e _ _ _ _ _ h1;cases hb:td i id with
   |true=>rw[hb,cond_true]at d;simp only[jX.ok.injEq]at d;obtain⟨_,_,rfl⟩:=d;exact this
   |false=>rw[hb,cond_false]at d;simp only[jX.ok.injEq]at d;obtain⟨_,_,rfl⟩:=d;exact this
  .exact e _ _ _ _ _ d
 |loop a e=>
  intro E H x dz H' d;simp only[gK]at d;revert d;generalize 5000=fuel;intro d
  induction fuel generalizing E H with
  |zero=>cases d
  |succ fuel k=>
   simp only[Cd]at d;split at d
   .rename_i h j h1;exact(e _ _ _ _ _ h1).trans (k _ _ d)
   .exact e _ _ _ _ _ d
 |exit id=>intro E H x dz H' d;simp only[gK,jX.ok.injEq]at d;obtain⟨_,_,rfl⟩:=d;exact .refl _
 |ret=>intro E H x dz H' d;simp only[gK,jX.ok.injEq]at d;obtain⟨_,_,rfl⟩:=d;exact .refl _
 |reg ops=>intro E H x dz H' d;exact aas hc _ _ _ d
 |draw ops bef cC=>intro E H x dz H' d;exact aat hc _ _ _ _ _ _ d
 |bad=>intro E H x dz H' d;cases d
def CI{k:List o5->Option (o5×aE)}{r:o5×aE}:∀(b:List (Nat×Option (Bool×Nat))) (k:List o5->Option (o5×aE)),qA E H b k=C r->∃vs,k vs=C r
 | [],k,a=>⟨[],a⟩
 | (t,o0)::l,k,a=>by simp only[qA]at a;obtain⟨vs,h⟩:=CI (k:=k) l _ a;exact⟨_,h⟩
 | (t,C (d,n))::l,k,a=>by
  simp only[qA]at a;split at a
  .obtain⟨c,a⟩:=xQ a;split at a
   .obtain⟨vs,h⟩:=CI (k:=k) l _ a;exact⟨_,h⟩
   .split at a
    .obtain⟨vs,h⟩:=CI (k:=k) l _ a;exact⟨_,h⟩
    .cases a
  .cases a
def CJ{c:vb->Option vz}{orc:vb->List o5->aE->Option (Option (o5×aE))}(d:rL λf b1 H=>match orc f b1 H with|some r=>r|none=>o0):∀m,rL (eP c orc m):=by
 intro m
 induction m with
 |zero=>intro f b1 v H H' a;cases a
 |succ m e=>
  intro f b1 v H H' a;simp only[eP]at a;split at a
  .rename_i r g;exact d f b1 v H H' (by simp only[g];exact a)
  .split at a
   .cases a
   .have a:=(kp a).2;split at a
    .cases a
    .rename_i x i j _ h1;have h:=Pn e _ _ _ _ _ _ h1;obtain⟨l,b⟩:=CI (k:=λ_=>o0) _ _ a;split at b<;>cases b<;>exact h
    .cases a
end
section
variable(P:tb)(call:vb->List o5->aE->Option (o5×aE))(ops:Array sa)(bef:List Nat)(cC:List (Nat×Nat))
def Ht(dU:Nat->cL)(aM:Nat->aE)(j:Nat)(o:sa):Prop:=∃a v b,a.t=(aM j).t/\a.an=(aM j).an/\(∀c,c<(aM j).an->c9 a.bQ c=q9->c9 (aM j).bQ c=q9/\(∀k,k<j->atE (gE bef j) k=q9->¬((aM k).an<=c/\c<(aM (k+1)).an))/\(∀k w,(k,w)∈cC->lz bef j k=J->nA ((dU j).rd w)≠C c))/\
  (∀c,(aM j).an<=c->c9 a.bQ c=J->c9 (aM j).bQ c=J\/(∃k,k<j/\c<(aM (k+1)).an)\/∃k w,(k,w)∈cC/\nA ((dU j).rd w)=C c)/\
  (∀c,c9 a.bQ c=q9->c9 (aM j).bQ c=q9)/\
  (((aM j).an<=a.cg/\(aM j).cg<=a.cg)\/(a.cg=(aM j).cg/\(sM bef j=J\/∃w,(j,w)∈cC/\vI (dU j) w (eY P ops o).op=J)))/\
  ((ko (dU j) (eY P ops o).g=J/\cy call (dU j) a (eY P ops o).op=C (v,b))\/(ko (dU j) (eY P ops o).g=q9/\v=vk/\b=a))/\
  dU (j+1)=(dU j).put o.dst v/\aM (j+1)= {b with cg:=(aM j).cg,bQ:=(aM j).bQ}
def CK(o:sa):(eY P ops o).dst=o.dst:=by
 unfold eY;split
 .rfl
 .split<;>rfl
def Po{i w:Nat}:∀(cC:List (Nat×Nat)),Cc i cC=C w->(i,w)∈cC
 | [],h=>by cases h
 | (k,u)::r,h=>by
  simp only[Cc]at h;cases hb:td i k with
  |true=>rw[hb,cond_true]at h;cases h;have:=beq_eq hb;subst this;exact awE
  |false=>rw[hb,cond_false]at h;exact avz _ (Po r h)
def Hu(H:aE):aE:= {H with cg:=cond (vd H.an H.cg) H.cg H.an,bQ:=(0,H.an)::H.bQ}
def Pp(H:aE):H.an<=(cond (vd H.an H.cg) H.cg H.an)/\H.cg<=(cond (vd H.an H.cg) H.cg H.an):=by
 cases hb:vd H.an H.cg with
 |true=>exact⟨fZ hb,vr _⟩
 |false=>
  have:¬H.an<=H.cg:=λh=>by rw[aus h]at hb;cases hb
  exact⟨vr _,by rw[cond_false];omega⟩
def Hv(H:aE)(c:Nat):c9 (Hu H).bQ c=J↔c<H.an\/c9 H.bQ c=J:=by
 show c9 ((0,H.an)::H.bQ) c=J↔_;simp only[c9];have:vd 0 c=J:=aus (awu _);rw[this,cond_true];cases a:vd H.an c with
 |true=>have:=fZ a;rw[cond_true];simp;omega
 |false=>
  have:¬H.an<=c:=λh=>by rw[aus h]at a;cases a
  rw[cond_false];simp;omega
def aau{dz:cL}{H':aE}{x:eM}:∀(l:List sa) (bs:List Nat) (i:Nat) (m:List (Nat×Nat×Nat)) (E:cL) (H:aE) (dU:Nat->cL) (aM:Nat->aE),(∀j,j<l.length->bs[j]? =C (gE bef (i+j)))->dU i=E->aM i=H->(∀k,k<i->(aM k).an<(aM (k+1)).an->(k,(aM k).an,(aM (k+1)).an)∈m)->(∀k lo hi,(k,lo,hi)∈m->k<i/\hi=(aM (k+1)).an)->
  oR call bef cC (sM bef) i (l.map (eY P ops)) bs m E H=.ok x dz H'->
  ∃s r,(∀j,j<=i->s j=dU j)/\(∀j,j<=i->r j=aM j)/\s (i+l.length)=dz/\r (i+l.length)=H'/\x=.cx/\∀j o,l[j]? =C o->Ht P call ops bef cC s r (i+j) o:=by
 intro l
 induction l with
 |nil=>intro bs i m E H dU aM _ hE R _ _ a;simp only[awD,oR,jX.ok.injEq]at a;obtain⟨rfl,rfl,rfl⟩:=a;exact⟨dU,aM,λ_ _=>rfl,λ_ _=>rfl,hE,R,rfl,λj o h=>by simp at h⟩
 |cons o l ih=>
  intro bs i m E H dU aM S hE R hm a6 a;have W:=S 0 Y
  match bs,W,S,a with
  |b::bs,W,S,a=>
   simp only[List.getElem?_cons_zero,asg,Option.some.injEq]at W;have bl:∀j,j<l.length->bs[j]? =C (gE bef (i+1+j)):=λj F=>by have:=S (j+1) atB;rw[(U:i+1+j=i+(j+1))];simpa using this
   simp only[atS,oR,CK]at a;have ag:∀(A:aE) (v:o5) (d:aE) (I:List (Nat×Nat×Nat)),A.t=H.t->A.an=H.an->(∀c,c<H.an->c9 A.bQ c=q9->c9 H.bQ c=q9/\(∀k,k<i->atE (gE bef i) k=q9->¬((aM k).an<=c/\c<(aM (k+1)).an))/\(∀k w,(k,w)∈cC->lz bef i k=J->nA (E.rd w)≠C c))->
     (∀c,H.an<=c->c9 A.bQ c=J->c9 H.bQ c=J\/(∃k,k<i/\c<(aM (k+1)).an)\/∃k w,(k,w)∈cC/\nA (E.rd w)=C c)->
     (∀c,c9 A.bQ c=q9->c9 H.bQ c=q9)->
     ((H.an<=A.cg/\H.cg<=A.cg)\/(A.cg=H.cg/\(sM bef i=J\/∃w,(i,w)∈cC/\vI E w (eY P ops o).op=J)))->
     ((ko E (eY P ops o).g=J/\cy call E A (eY P ops o).op=C (v,d))\/(ko E (eY P ops o).g=q9/\v=vk/\d=A))->
     (H.an<d.an->(i,H.an,d.an)∈I)->(∀p,p∈m->p∈I)->(∀p,p∈I->p∈m\/p=(i,H.an,d.an))->
     oR call bef cC (sM bef) (i+1) (l.map (eY P ops)) bs I (E.put o.dst v) {d with cg:=H.cg,bQ:=H.bQ}=.ok x dz H'->
     ∃s r,(∀j,j<=i->s j=dU j)/\(∀j,j<=i->r j=aM j)/\s (i+(o::l).length)=dz/\r (i+(o::l).length)=H'/\x=.cx/\∀j aB,(o::l)[j]? =C aB->Ht P call ops bef cC s r (i+j) aB:=by
    intro A v d I c1 c2 c3 c4 c5 c6 cG b5 dk b6 a;obtain⟨s,r,dH,d2,js,jJ,m6,ox⟩:=ih bs (i+1) I (E.put o.dst v) {d with cg:=H.cg,bQ:=H.bQ} (λj=>if j<=i then dU j else E.put o.dst v) (λj=>if j<=i then aM j else{d with cg:=H.cg,bQ:=H.bQ}) bl (if_neg U) (if_neg U)
     (λk G X=>by
      by_cases bm:k=i
      .subst bm;simp only[vr,if_true,(U:¬k+1<=k),if_false,R]at X ⊢;exact b5 X
      .simp only[(U:k<=i),if_true,(U:k+1<=i)]at X ⊢;exact dk _ (hm k U X))
     (λk lo hi B=>by
      rcases b6 _ B with B|B
      .obtain⟨q1,L⟩:=a6 k lo hi B;refine⟨U,?_⟩;simp only[(U:k+1<=i),if_true];exact L
      .simp only[Prod.mk.injEq]at B;obtain⟨rfl,_,rfl⟩:=B;refine⟨U,?_⟩;simp only[(U:¬k+1<=k),if_false])
     a
    have a7:∀j,j<=i->s j=dU j:=λj F=>by rw[dH j U];simp[F]
    have M:∀j,j<=i->r j=aM j:=λj F=>by rw[d2 j U];simp[F]
    have bn:s (i+1)=E.put o.dst v:=by rw[dH (i+1) U];exact if_neg U
    have bp:r (i+1)= {d with cg:=H.cg,bQ:=H.bQ}:=by rw[d2 (i+1) U];exact if_neg U
    refine⟨s,r,a7,M,by rw[RF,(U:i+(l.length+1)=i+1+l.length)];exact js,by rw[RF,(U:i+(l.length+1)=i+1+l.length)];exact jJ,m6,λj aB F=> ?_⟩;cases j with
    |zero=>
     simp at F;subst F;have e0:s i=E:=(a7 i U).trans hE;have D:r i=H:=(M i U).trans R;refine⟨A,v,d,by rw[asg,D];exact c1,by rw[asg,D];exact c2,λc hc f=> ?_,λc hc f=> ?_,by rw[asg,D];exact c5,by rw[asg,D,e0];exact c6,by rw[asg,e0];exact cG,by show s (i+1)=(s i).put o.dst v;rw[e0,bn],by show r (i+1)= {d with cg:=(r i).cg,bQ:=(r i).bQ};rw[D,bp]⟩
     .rw[asg,D]at hc;obtain⟨q1,L,q3⟩:=c3 c hc f;rw[asg];refine⟨by rw[D];exact q1,λk G hb=> ?_,by rw[e0];exact q3⟩;rw[M k U,M (k+1) U];exact L k G hb
     .rw[asg,D]at hc;rw[asg];rcases c4 c hc f with q|⟨k,G,q⟩|q
      .exact .inl (by rw[D];exact q)
      .exact .inr (.inl ⟨k,G,by rw[M (k+1) U];exact q⟩)
      .exact .inr (.inr (by rw[e0];exact q))
    |succ j=>rw[(U:i+(j+1)=i+1+j)];exact ox j aB (by simpa using F)
   have az:∀c,c9 (lX b m (lA bef E i cC H.bQ)) c=J↔(c9 H.bQ c=J\/∃k w,(k,w)∈cC/\lz bef i k=J/\nA (E.rd w)=C c)\/∃k lo hi,(k,lo,hi)∈m/\atE b k=q9/\lo<=c/\c<hi:=λc=>by rw[Hr,Hs]
   have v3:∀c,c<H.an->c9 (lX b m (lA bef E i cC H.bQ)) c=q9->c9 H.bQ c=q9/\(∀k,k<i->atE (gE bef i) k=q9->¬((aM k).an<=c/\c<(aM (k+1)).an))/\(∀k w,(k,w)∈cC->lz bef i k=J->nA (E.rd w)≠C c):=λc _ f=>by
    have af:¬_:=λh=>by rw[(az c).2 h]at f;cases f
    refine⟨?_,λk G hb hr=> ?_,λk w G ha hb=>af (.inl (.inr ⟨k,w,G,ha,hb⟩))⟩
    .cases N:c9 H.bQ c with
     |false=>rfl
     |true=>exact absurd (.inl (.inl N)) af
    .exact af (.inr ⟨k,_,_,hm k G U,by rw[W];exact hb,hr⟩)
   have v4:∀c,H.an<=c->c9 (lX b m (lA bef E i cC H.bQ)) c=J->c9 H.bQ c=J\/(∃k,k<i/\c<(aM (k+1)).an)\/∃k w,(k,w)∈cC/\nA (E.rd w)=C c:=λc _ f=>by
    rcases(az c).1 f with(h|⟨k,w,h1,_,h2⟩)|⟨k,lo,hi,h1,_,_,h4⟩
    .exact .inl h
    .exact .inr (.inr ⟨k,w,h1,h2⟩)
    .obtain⟨q1,L⟩:=a6 k lo hi h1;exact .inr (.inl ⟨k,q1,by rw[<- L];exact h4⟩)
   have v5:∀c,c9 (lX b m (lA bef E i cC H.bQ)) c=q9->c9 H.bQ c=q9:=λc f=>by
    cases N:c9 H.bQ c with
    |false=>rfl
    |true=>rw[(az c).2 (.inl (.inl N))]at f;cases f
   cases Q:ko E (eY P ops o).g with
   |false=>
    rw[Q,cond_false,oU]at a;refine ag (Hu H) vk (Hu H) m rfl rfl (λc hc f=> ?_) (λc hc f=> ?_) (λc f=> ?_) (.inl (Pp H)) (.inr ⟨Q,rfl,rfl⟩) (λh=>absurd h (azn _)) (λ_ h=>h) (λ_ h=>.inl h) a
    .rw[(Hv H c).2 (.inl hc)]at f;cases f
    .rcases(Hv H c).1 f with h|h
     .omega
     .exact .inl h
    .cases N:c9 H.bQ c with
     |false=>rfl
     |true=>rw[(Hv H c).2 (.inr N)]at f;cases f
   |true=>
    rw[Q,cond_true]at a;split at a
    .split at a
     .rename_i v d u;rw[oU]at a;refine ag {H with cg:=cond (sM bef i) H.cg (cond (vd H.an H.cg) H.cg H.an),bQ:=lX b m (lA bef E i cC H.bQ)} v d ((i,H.an,d.an)::m) rfl rfl v3 v4 v5 ?_ (.inl ⟨Q,u⟩) (λ_=>awE) (λp B=>avz _ B) (λp B=> ?_) a
      .cases hl:sM bef i with
       |true=>exact .inr ⟨rfl,.inl rfl⟩
       |false=>exact .inl (Pp H)
      .rcases B4.1 B with e|e
       .exact .inr e
       .exact .inl e
     .cases a
    .rename_i w b4;cases K:vI E w (eY P ops o).op with
     |false=>rw[K]at a;cases a
     |true=>
      rw[K,cond_true]at a;split at a
      .rename_i v d u;rw[oU]at a;have a8:d.an=H.an/\d.cg=H.cg:=by
        unfold vI at K;split at K
        .rename_i n y z heq;rw[heq]at u;simp only[cy]at u;split at u
         .obtain⟨_,u⟩:=kp u;obtain⟨y,u,_⟩:=vS u;cases u;exact⟨rfl,rfl⟩
         .cases u
        .cases K
       refine ag {H with bQ:=lX b m (lA bef E i cC H.bQ)} v d m rfl rfl v3 v4 v5 (.inr ⟨rfl,.inr ⟨w,Po _ b4,K⟩⟩) (.inl ⟨Q,u⟩) (λh=>by rw[a8.1]at h;exact absurd h (azn _)) (λ_ h=>h) (λ_ h=>.inl h) ?_;have: {d with bQ:=H.bQ}=({d with cg:=H.cg,bQ:=H.bQ}:aE):=by rw[<- a8.2]
       rw[<- this];exact a
      .cases a
end
section
variable{ρ bq:aX}
mutual
def bj.fn{v bF v'':o5}(h:bj ρ v bF)(k:bj ρ v v''):bF=v'':=by
 cases h with
 |bool b=>cases k;rfl
 |int j n=>cases k;rfl
 |string s=>cases k;rfl
 |GY=>cases k;rfl
 |ptr o e=>cases k with|ptr o e'=>rw[e]at e';cases e';rfl
 |uh n c=>cases k;rfl
 |sl o n m e=>cases k with|sl o n m e'=>rw[e]at e';cases e';rfl
 |GZ=>cases k;rfl
 |map e=>cases k with|map e'=>rw[e]at e';cases e';rfl
 |func f a b=>cases k with|func f a' bG=>rw[cT.fn a a',cT.fn b bG]
 |nilFunc=>cases k;rfl
 |iface t a=>cases k with|iface t a'=>rw[bj.fn a a']
 |nilIface=>cases k;rfl
 |agg a=>cases k with|agg a'=>rw[cT.fn a a']
 |tuple a=>cases k with|tuple a'=>rw[cT.fn a a']
def cT.fn{l dw l'':List o5}(h:cT ρ l dw)(k:cT ρ l l''):dw=l'':=by
 cases h with
 |nil=>cases k;rfl
 |cons a b=>cases k with|cons a' bG=>rw[bj.fn a a',cT.fn b bG]
end
def lY.fn:∀{l:List (o5×o5×Nat)} {m dG:List MapEntry},lY ρ l m->lY ρ l dG->m=dG
 | [],[],[],_,_=>rfl
 | (k,v,n)::l,⟨a,b,c⟩::m,⟨p,bG,bJ⟩::dG,⟨h1,f,g,o⟩,⟨i,d,e,j⟩=>by simp only at h1 f g i d e;rw[bj.fn h1 i,bj.fn f d,g,e,lY.fn o j]
 | [],_::_,_,h,_=>h.elim
 | [],[],_::_,_,h=>h.elim
 |_::_,[],_,h,_=>h.elim
 |_::_,_::_,[],_,h=>h.elim
def Bk.level{P:tb}(le:ρ.ar bq){k:Nat}{x:cj}{o aB:Option dL}(h:Bk P bq k x aB)(q:Bk P ρ k x o):Bk P ρ k x aB:=by
 cases x with
 |dead=>trivial
 |cs own lo t c=>obtain⟨arr,fu,bJ,rest,h1,b,d,m,n⟩:=h;obtain⟨p,g,c2,r,i,j,a,e,s⟩:=q;have:bJ=c2:=cT.fn m (e.mono le);subst this;exact⟨arr,fu,bJ,rest,h1,b,d,e,n⟩
 |mp own es u=>obtain⟨f,fu,h1,b,d⟩:=h;obtain⟨l,g,i,j,a⟩:=q;have:f.toList=l.toList:=lY.fn d (a.mono le);exact⟨f,fu,h1,b,by rw[this];exact a⟩
end
def aX.iT(ρ:aX)(m:Nat):aX:=λc=>if c<m then ρ c else o0
def aX.rM(ρ:aX)(m:Nat):(ρ.iT m).ar ρ:=λc x h=>by unfold aX.iT at h;split at h;exact h;cases h
def aX.CL(ρ:aX){m dG:Nat}(h:m<=dG):(ρ.iT m).ar (ρ.iT dG):=λc x a=>by
 unfold aX.iT at a ⊢;split at a
 .rw[if_pos U];exact a
 .cases a
def aX.qI{ρ:aX}{m c:Nat}(h:c<m):ρ.iT m c=ρ c:=by simp[aX.iT,h]
def aX.Hw{ρ:aX}{m c:Nat}(h:m<=c):ρ.iT m c=o0:=by simp[aX.iT,Nat.not_lt.2 h]
def aX.Hx{ρ bq:aX}(h:ρ.ar bq)(m:Nat):(ρ.iT m).ar (bq.iT m):=λc x a=>by
 unfold aX.iT at a ⊢;split at a
 .rename_i hc;rw[if_pos hc];exact h c x a
 .cases a
def Hy{α:Type}{f:Nat->α->Bool}:∀(l:List α) (i:Nat),zX f i l=J->∀j a,l[j]? =C a->f (i+j) a=J
 | [],i,_,j,a,h=>by simp at h
 |b::l,i,c,j,a,h=>by
  simp only[zX,vh]at c;cases j with
  |zero=>simp at h;subst h;exact c.1
  |succ j=>have:=Hy l (i+1) c.2 j a (by simpa using h);rw[(U:i+(j+1)=i+1+j)];exact this
def Pq{t:Nat}:∀{l:List su},Operand.tmp t∈l->t∈xJ l
 | [],h=>by cases h
 |a::l,h=>by
  rcases B4.1 h with e|e
  .subst e;simp[xJ]
  .have:=Pq e;cases a<;>simp only[xJ,B4]<;>first|exact .inr this|exact this
section
variable(P:tb)(call:vb->List o5->aE->Option (o5×aE))(ops:Array sa)(cC:List (Nat×Nat))(aQ:Nat)(E:cL)(H:aE)(fH:aX)(h0:ae)(e0:Env)
structure m8(bef:List Nat)(dU:Nat->cL)(aM:Nat->aE):Prop where
 sS:dU 0=E
 lH:aM 0=H
 nK:cD P aQ fH H.get H.an h0
 aav:aQ<=H.an
 atx:lD fH E e0
 can:rL call
 step:∀(j:Nat) (o:sa),ops[j]? =C o->Ht P call ops bef cC dU aM j o
 Pr:∀(j:Nat) (o:sa),ops[j]? =C o->∀x∈(eY P ops o).op.di,uk aQ x=J
 bit:∀i k,i<ops.size->i<=k->atE (gE bef i) k=q9
 two:∀(i k:Nat) (o aB:sa) (t:Nat),ops[i]? =C o->ops[k]? =C aB->i≠k->aB.dst=C t->o.dst≠C t/\(t∈(eY P ops o).reads->atE (gE bef i) k=J\/atE (gE bef k) i=J)
 own:∀(i:Nat) (o:sa) (t:Nat),ops[i]? =C o->o.dst=C t->t∉(eY P ops o).reads/\∀k w,(k,w)∈cC->w≠t
 len:bef.length=ops.size
end
section
variable{P:tb}{call:vb->List o5->aE->Option (o5×aE)}{ops:Array sa}{bef:List Nat}{cC:List (Nat×Nat)}{aQ:Nat}{E:cL}{H:aE}{fH:aX}{h0:ae}{e0:Env}{dU:Nat->cL}{aM:Nat->aE}
def m8.none(R:m8 P call ops cC aQ E H fH h0 e0 bef dU aM):∀j,j<=ops.size->(∀c,(aM j).an<=c->(aM j).get c=o0)/\Can H (aM j)
 | 0,_=>by
  rw[R.lH];refine⟨λc hc=> ?_,.refl _⟩;cases f:H.get c with
  |none=>rfl
  |some x=>obtain⟨b,k,h1,_⟩:=R.nK.blk c x f;rw[R.nK.dX c hc]at h1;cases h1
 |j+1,s=>by
  obtain⟨bK,c1⟩:=R.none j U;have g:ops[j]? =C ops[j]:=aul U;obtain⟨n,v,H1,a1,a2,a3,w,o,i,l,t,p⟩:=R.step j _ g;have m:Can n H1:=by
   rcases l with⟨_,h⟩|⟨_,_,h⟩
   .exact uw R.can h
   .rw[h];exact .refl _
  have a:Can (aM j) (aM (j+1)):=by rw[p];exact CH a1 a2 o (i.elim And.right λq=>ayj q.1.symm) m
  refine⟨λc hc=> ?_,c1.trans a⟩;have u:=a.an;have d:=bK c U;rw[aE.get_eq,a.bQ,a.can c (.inr hc) (λr=>by obtain⟨_,x,e,_⟩:=r;rw[d]at e;cases e),<- aE.get_eq];exact d
def m8.Ps(R:m8 P call ops cC aQ E H fH h0 e0 bef dU aM){j:Nat}(a:j<ops.size):Can (aM j) (aM (j+1)):=by
 have b:ops[j]? =C ops[j]:=aul a;obtain⟨f,v,H1,a1,a2,a3,l,g,c,d,k,i⟩:=R.step j _ b;have e:Can f H1:=by
  rcases d with⟨_,h⟩|⟨_,_,h⟩
  .exact uw R.can h
  .rw[h];exact .refl _
 rw[i];exact CH a1 a2 g (c.elim And.right λq=>ayj q.1.symm) e
def m8.oV(R:m8 P call ops cC aQ E H fH h0 e0 bef dU aM):∀{i j:Nat},i<=j->j<=ops.size->(aM i).an<=(aM j).an:=by
 intro i j b c
 induction j with
 |zero=>
      have:i=0:=U
      subst this;exact vr _
 |succ j a=>
  rcases vy i (j+1)with h|h
  .exact atD (a U U) (R.Ps U).an
  .have:i=j+1:=U
   subst this;exact vr _
def jY(aM:Nat->aE)(k c:Nat):Prop:=(aM (k+1)).get c≠(aM k).get c
def m8.meet(R:m8 P call ops cC aQ E H fH h0 e0 bef dU aM){i k c:Nat}(hi:i<ops.size)(hk:k<ops.size)(Q:i≠k)(h1:atE (gE bef i) k=q9)(m:atE (gE bef k) i=q9)(e:jY aM k c)
  {Vz:aE} (ca:Vz.an=(aM i).an) (S:Vz.t=(aM i).t) (X:∀c,c<(aM i).an->c9 Vz.bQ c=q9->c9 (aM i).bQ c=q9/\(∀k,k<i->atE (gE bef i) k=q9->¬((aM k).an<=c/\c<(aM (k+1)).an))/\(∀k w,(k,w)∈cC->lz bef i k=J->nA ((dU i).rd w)≠C c))
  (ab:∀c,c9 Vz.bQ c=q9->c9 (aM i).bQ c=q9):Vz.get c=ayT:=by
 cases hg:Vz.get c with
 |none=>rfl
 |some x=>
  exfalso;obtain⟨M,g2⟩:=aE.get_some hg;have s:(aM i).get c=C x:=by rw[aE.get_eq,ab c M,<- S,g2];rfl
  have af:c<(aM i).an:=avg λf=>by rw[(R.none i U).1 c f]at s;cases s
  obtain⟨v1,v2,v3⟩:=X c af M;have ag:ops[k]? =C ops[k]:=aul hk;obtain⟨W,w,H1,a1,a2,a3,a4,a5,d,v,a8,r⟩:=R.step k _ ag;rcases d with d|⟨d,az⟩
  ·
   obtain⟨d,_⟩:=d;have f:(aM k).an<=c:=Nat.le_of_not_lt λba=>e (by
    have bb:Can W H1:=by
     rcases v with⟨_,h⟩|⟨_,_,h⟩
     .exact uw R.can h
     .rw[h];exact .refl _
    have:H1.t.get c=W.t.get c:=bb.can c (.inl (by rw[a2];exact ba)) (λhw=>by have:=hw.1;omega);rw[r,aE.get_eq,aE.get_eq];show(if c9 (aM k).bQ c=J then ayT else H1.t.get c)=_;rw[this,a1])
   rcases vy k i with A|A
   .refine v2 k A h1 ⟨f,avg λbd=>e ?_⟩;rw[(R.none (k+1) U).1 c bd,(R.none k U).1 c f]
   .have:=R.oV (i:=i) (j:=k) U U;omega
  .rcases az with g|⟨u,N,b⟩
   ·
    unfold sM at g;simp only[vh]at g;rcases vy i k with D|D
    .have hf:gE bef k=full k:=beq_eq g.1;rw[hf,full,Nat.testBit_two_pow_sub_one]at m;simp[D]at m
    .have:=G0.1 g.2;rw[vL]at this;have F:i<bef.length:=by rw[R.len];exact hi
     have bk:bef[i]∈bef.drop (k+1):=by rw[List.mem_iff_getElem?];refine⟨i- (k+1),?_⟩;rw[List.getElem?_drop,(U:k+1+(i- (k+1))=i),Q4 F]
     have hb:=this _ bk;have:gE bef i=bef[i]:=by simp[gE,rH,Q4 F]
     rw[this,hb]at h1;cases h1
   ·
    have bl:lz bef i k=J:=by
     unfold lz;have e1:(mZ bef i).getD 0=gE bef i:=rfl;have e2:(mZ bef k).getD 0=gE bef k:=rfl;rw[e1,e2,h1,m];have:td i k=q9:=by cases hb:td i k with|false=>rfl|true=>exact absurd (beq_eq hb) Q
     rw[this];rfl
    have G:∀j,j<=ops.size->(dU j).rd u=E.rd u:=by
     intro j
     induction j with
     |zero=>intro _;rw[R.sS]
     |succ j I=>
      intro hj;have K:ops[j]? =C ops[j]:=aul U;obtain⟨_,_,_,_,_,_,_,_,_,_,b8,_⟩:=R.step j _ K;rw[b8];cases hd:(ops[j]).dst with
      |none=>exact I U
      |some t=>rw[Ac,if_neg ((R.own j _ t K hd).2 k u N)];exact I U
    rcases v with⟨_,a⟩|⟨_,_,h⟩
    .unfold vI at b;split at b
     .rename_i n y z heq;rw[heq]at a;split at b
      .rename_i p q L hq;have:=beq_eq b;subst this;simp only[cy]at a;split at a
       .rename_i B o hy;rw[hy]at L;cases L;obtain⟨_,a⟩:=kp a;obtain⟨yy,a,_⟩:=vS a;cases a;have l:c=p:=Classical.byContradiction λl=>e (by rw[r,aE.get_eq,aE.get_eq];show(if c9 (aM k).bQ c=J then ayT else(W.set p yy).t.get c)=_;rw[aE.vM,if_neg l,a1])
        subst l;refine v3 k u N bl ?_;rw[G i U,<- G k U];exact hq
       .cases a
      .cases b
     .cases b
    .refine e ?_;rw[r,h,aE.get_eq,aE.get_eq];show(if c9 (aM k).bQ c=J then ayT else W.t.get c)=_;rw[a1]
end
end
end Go.Nk
