/- Part Pah of the proof of ButtTexts: lemmas. -/
import Derived.Test.YthgephlghkjiaaaGreatDoorProg
import Derived.Test.YthgephlghkjiaaaGreatDoorPag
set_option maxRecDepth 100000
set_option maxHeartbeats 4000000
set_option linter.all false
namespace Go.Nk
noncomputable section
open Go Go.Conc Go.Proofs
open _root_.Array renaming getElem?_eq_getElem->aul,getElem?_eq_some_iff->auv,getElem?_toList->awY
open Bool renaming true->J,false->q9,or_eq_true->auU,and_eq_true->vh,not_eq_true'->avp
open Classical renaming byContradiction->auk
open Go renaming Program->tb,FuncId->vb,Value->o5,Oper->sa
open Go.Proofs.Tryz renaming prog->pv
open Go.Region renaming binds->atV,wanted->R9
open List renaming getElem?_append_left->avE,mem_cons_of_mem->avz,mem_cons_self->awE,getElem?_eq_getElem->Q4,all_eq_true->G0,contains_iff_mem->axS,mem_append->D3,getElem?_eq_some_iff->F1
open Nat renaming testBit->atE,add_zero->asg,le_refl->vr,le_trans->atD,lt_of_not_le->avg,lt_of_lt_of_le->auj,lt_or_ge->vy,zero_le->awu,zero_add->atI,beq->td
open Option renaming some->C,none->o0
open Prod.mk renaming injEq->at5
open Classical in
def aT(aM:Nat->aE)(D:Nat->Bool):Nat->Nat->Option cj×Nat
 | 0,c=>((aM 0).get c,(aM 0).an)
 |k+1,c=>cond (D k) (if jY aM k c then((aM (k+1)).get c,(aM (k+1)).an)else aT aM D k c) (aT aM D k c)
def vT{aM:Nat->aE}{D:Nat->Bool}{k c:Nat}(h1:D k=J)(a:jY aM k c):aT aM D (k+1) c=((aM (k+1)).get c,(aM (k+1)).an):=by rw[aT,h1,cond_true,if_pos a]
def qJ{aM:Nat->aE}{D:Nat->Bool}{k c:Nat}(h:¬(D k=J/\jY aM k c)):aT aM D (k+1) c=aT aM D k c:=by
 rw[aT];cases hd:D k with
 |false=>rfl
 |true=>rw[cond_true,if_neg (λa=>h ⟨hd,a⟩)]
section
variable{P:tb}{call:vb->List o5->aE->Option (o5×aE)}{ops:Array sa}{bef:List Nat}{cC:List (Nat×Nat)}{aQ:Nat}{E:cL}{H:aE}{fH:aX}{h0:ae}{e0:Env}{dU:Nat->cL}{aM:Nat->aE}{D:Nat->Bool}
structure sU(P:tb)(ops:Array sa)(bef:List Nat)(aQ:Nat)(E:cL)(H:aE)(fH:aX)(h0:ae)(dU:Nat->cL)(aM:Nat->aE)(D:Nat->Bool)(ρ:aX)(e:Env)(h:ae):Prop where
 le:fH.ar ρ
 old:∀c,c<H.an->ρ c=fH c
 CM:∀t,(∀k o,ops[k]? =C o->D k=J->o.dst≠C t)->bj fH (E.rd t) (e t)
 CN:∀k o t,ops[k]? =C o->D k=J->o.dst=C t->bj (ρ.iT (aM (k+1)).an) ((dU (k+1)).rd t) (e t)
 blk:∀c x m,aT aM D ops.size c=(C x,m)->∃b kk,ρ.iT m c=C (b,kk)/\Bk P (ρ.iT m) kk x (h b)
 inj:∀c d x y m dG b k k',aT aM D ops.size c=(C x,m)->aT aM D ops.size d=(C y,dG)->x.live=J->y.live=J->ρ c=C (b,k)->ρ d=C (b,k')->c=d
 dX:∀c,H.an<=c->ρ c≠o0->∃k,k<ops.size/\D k=J/\(aM k).an<=c/\c<(aM (k+1)).an
 lZ:∀b x,h0 b=C x->(∀c k,gL H c->fH c≠C (b,k))->h b=C x
 lB:∀c x m b k,aT aM D ops.size c=(C x,m)->H.an<=c->x.live=J->ρ c=C (b,k)->h0 b=o0\/∃dy k0,gL H dy/\fH dy=C (b,k0)
 closed:∀k,k<ops.size->D k=J->∀j,atE (gE bef k) j=J->D j=J
def Pt(R:m8 P call ops cC aQ E H fH h0 e0 bef dU aM){i c:Nat}(hi:i<ops.size):(¬jY aM i c->aT aM (λj=>if j=i then J else D j) ops.size c=aT aM D ops.size c)/\
  (jY aM i c->(∀k,i<k->k<ops.size->D k=J->¬jY aM k c)->aT aM (λj=>if j=i then J else D j) ops.size c=((aM (i+1)).get c,(aM (i+1)).an)):=by
 refine⟨λd=> ?_,λf g=> ?_⟩
 .have:∀m,aT aM (λj=>if j=i then J else D j) m c=aT aM D m c:=by
   intro m
   induction m with
   |zero=>rfl
   |succ m a=>
    by_cases b:m=i
    .subst b;rw[qJ (λh=>d h.2),qJ (λh=>d h.2)];exact a
    .have e:(λj=>if j=i then J else D j) m=D m:=if_neg b;by_cases hc:D m=J/\jY aM m c
     .rw[vT (e.trans hc.1) hc.2,vT hc.1 hc.2]
     .rw[qJ (λh=>hc ⟨e.symm.trans h.1,h.2⟩),qJ hc];exact a
  exact this _
 .have:∀m,i+1+m<=ops.size->aT aM (λj=>if j=i then J else D j) (i+1+m) c=((aM (i+1)).get c,(aM (i+1)).an):=by
   intro m
   induction m with
   |zero=>intro _;rw[asg];exact vT Y f
   |succ m a=>intro b;have e:(λj=>if j=i then J else D j) (i+1+m)=D (i+1+m):=if_neg U;rw[(U:i+1+(m+1)=(i+1+m)+1),qJ (λh=>g (i+1+m) U U (e.symm.trans h.1) h.2)];exact a U
  have h1:=this (ops.size- (i+1)) U;rw[(U:i+1+(ops.size- (i+1))=ops.size)]at h1;exact h1
def aaw(R:m8 P call ops cC aQ E H fH h0 e0 bef dU aM){i c:Nat}(hi:i<ops.size)(e:∀k,k<ops.size->D k=J->i<=k->¬jY aM k c)(hb:∀k,k<i->D k=q9->¬jY aM k c):∃m,m<=(aM i).an/\aT aM D ops.size c=((aM i).get c,m):=by
 have g:∀j,j<=i->∃m,m<=(aM j).an/\aT aM D j c=((aM j).get c,m):=by
  intro j
  induction j with
  |zero=>intro _;exact⟨_,vr _,rfl⟩
  |succ j a=>
   intro l;obtain⟨m,h1,b⟩:=a U;by_cases hc:D j=J/\jY aM j c
   .rw[vT hc.1 hc.2];exact⟨_,vr _,rfl⟩
   .rw[qJ hc,b];have f:¬jY aM j c:=λd=>by
     cases hd:D j with
     |true=>exact hc ⟨hd,d⟩
     |false=>exact hb j U hd d
    refine⟨m,atD h1 (R.oV U U),?_⟩;have:(aM (j+1)).get c=(aM j).get c:=auk f;rw[this]
 obtain⟨m,h1,b⟩:=g i (vr _);refine⟨m,h1,?_⟩;have up:∀q,i+q<=ops.size->aT aM D (i+q) c=aT aM D i c:=by
  intro q
  induction q with
  |zero=>intro _;rfl
  |succ q a=>intro n;rw[(U:i+(q+1)=(i+q)+1),qJ (λh=>e (i+q) U h.1 U h.2)];exact a U
 have:=up (ops.size- i) U;rw[(U:i+(ops.size- i)=ops.size)]at this;rw[this];exact b
def sU.next(R:m8 P call ops cC aQ E H fH h0 e0 bef dU aM){ρ:aX}{e:Env}{h:ae}(I:sU P ops bef aQ E H fH h0 dU aM D ρ e h){i:Nat}{o:sa}(ho:ops[i]? =C o)(hi:i<ops.size)(c6:D i=q9)(bm:∀j,atE (gE bef i) j=J->D j=J)
  {Vz S:aE} {v:o5} (dd:Vz.t=(aM i).t) (X:Vz.an=(aM i).an) (e9:∀c,c<(aM i).an->c9 Vz.bQ c=q9->c9 (aM i).bQ c=q9/\(∀k,k<i->atE (gE bef i) k=q9->¬((aM k).an<=c/\c<(aM (k+1)).an))/\(∀k w,(k,w)∈cC->lz bef i k=J->nA ((dU i).rd w)≠C c))
  (fa:∀c,(aM i).an<=c->c9 Vz.bQ c=J->c9 (aM i).bQ c=J) (eu:∀c,c9 Vz.bQ c=q9->c9 (aM i).bQ c=q9) (fb:(aM i).an<=Vz.cg\/Vz.cg=(aM i).cg) (ew:Can Vz S)
  (fc:dU (i+1)=(dU i).put o.dst v) (b5:aM (i+1)= {S with cg:=(aM i).cg,bQ:=(aM i).bQ}):
  cD P aQ (ρ.iT (aM i).an) Vz.get Vz.an h/\
  ∀(bq:aX) (h':ae) (bF:o5),cD P aQ bq S.get S.an h'->bj bq v bF->gq Vz (ρ.iT (aM i).an) h S bq h'->∃B,sU P ops bef aQ E H fH h0 dU aM (λj=>if j=i then J else D j) B (b7 e o.dst bF) h':=by
 have ey:∀k,k<ops.size->D k=J->k≠i->atE (gE bef k) i=q9:=λk p hd ag=>by
  cases hb:atE (gE bef k) i with
  |false=>rfl
  |true=>have:=I.closed k p hd i hb;rw[c6]at this;cases this
 have bn:∀c x,Vz.get c=C x->(aM i).get c=C x:=λc x hc=>by obtain⟨A,g2⟩:=aE.get_some hc;rw[aE.get_eq,eu c A,<- dd,g2];rfl
 have de:∀c x,Vz.get c=C x->c<(aM i).an:=λc x hc=>avg λfg=>by have:=bn c x hc;rw[(R.none i U).1 c fg]at this;cases this
 have ds:∀k c,k<ops.size->k≠i->(D k=J\/k<i)->atE (gE bef i) k=q9->jY aM k c->Vz.get c=o0:=λk c p ag hd hb n=>by
  have a:atE (gE bef k) i=q9:=by
   rcases hd with hd|hd
   .exact ey k p hd ag
   .exact R.bit k i p U
  exact R.meet hi p (Ne.symm ag) hb a n X dd e9 eu
 have bh:∀c x,Vz.get c=C x->∃m,m<=(aM i).an/\aT aM D ops.size c=(C x,m):=λc x hc=>by
  have:=aaw (D:=D) R hi (c:=c) (λk p hd dt n=>by
   have ag:k≠i:=λe'=>by subst e';rw[c6]at hd;cases hd
   have:=ds k c p ag (.inl hd) (R.bit i k hi dt) n;rw[hc]at this;cases this) (λk p hd n=>by
   have hb:atE (gE bef i) k=q9:=by
    cases hb:atE (gE bef i) k with
    |false=>rfl
    |true=>have:=bm k hb;rw[hd]at this;cases this
   have:=ds k c U U (.inr p) hb n;rw[hc]at this;cases this)
  rw[bn c x hc]at this;exact this
 have hn:(aM i).an<=(aM (i+1)).an:=(R.Ps hi).an;have hp:H.an<=(aM i).an:=by have:=R.oV (i:=0) (j:=i) U U;rw[R.lH]at this;exact this
 have fl:cD P aQ (ρ.iT (aM i).an) Vz.get Vz.an h:=by
  refine⟨λc x hc=> ?_,λc d x y b k k' hc hd s r h1 a=> ?_,λc hc=> ?_,λg f=> ?_⟩
  .obtain⟨m,hm,f⟩:=bh c x hc;obtain⟨b,kk,h1,a⟩:=I.blk c x m f;exact⟨b,kk,aX.CL ρ hm _ _ h1,a.mono (aX.CL ρ hm)⟩
  .obtain⟨m,_,f⟩:=bh c x hc;obtain⟨dG,_,Q⟩:=bh d y hd;exact I.inj c d x y m dG b k k' f Q s r (aX.rM _ _ _ _ h1) (aX.rM _ _ _ _ a)
  .rw[X]at hc;exact aX.Hw hc
  .have fs:=R.nK.rI g f;have:g<H.an:=auj f R.aav;rw[aX.qI U,I.old g this];exact fs
 refine⟨fl,λbq h' bF S' hv F=> ?_⟩;have ez:S.an=(aM (i+1)).an:=by rw[b5]
 obtain⟨B,eA⟩:∃B:aX,B=λc=>if(aM i).an<=c/\c<(aM (i+1)).an then bq c else ρ c:=⟨_,rfl⟩
 refine⟨B,?_⟩;have ft:∀c,(aM i).an<=c->c<(aM (i+1)).an->B c=bq c:=λc h1 a=>by rw[eA];simp[h1,a]
 have az:∀c,¬((aM i).an<=c/\c<(aM (i+1)).an)->B c=ρ c:=λc h1=>by rw[eA];exact if_neg h1
 have e7:∀c,(aM i).an<=c->c<(aM (i+1)).an->ρ c=o0:=λc h1 a=>by
  cases hc:ρ c with
  |none=>rfl
  |some z=>
   exfalso;obtain⟨k,p,hd,h3,h4⟩:=I.dX c U (by rw[hc];simp);rcases Nat.lt_trichotomy k i with ab|ab|ab
   .have:=R.oV (i:=k+1) (j:=i) U U;omega
   .subst ab;rw[c6]at hd;cases hd
   .have:=R.oV (i:=i+1) (j:=k) U U;omega
 have rN:ρ.ar B:=λc z hc=>by
  by_cases L:(aM i).an<=c/\c<(aM (i+1)).an
  .rw[e7 c L.1 L.2]at hc;cases hc
  .rw[az c L];exact hc
 have bt:∀c,bq c=B.iT (aM (i+1)).an c:=λc=>by
  rcases vy c (aM (i+1)).an with hc|hc
  .rw[aX.qI hc];rcases vy c (aM i).an with b6|b6
   .rw[az c U,F.old c (by rw[X];exact b6),aX.qI b6]
   .rw[ft c b6 hc]
  .rw[aX.Hw hc];exact S'.dX c (by rw[ez];exact hc)
 have dx:bq=B.iT (aM (i+1)).an:=funext bt;have dA:∀c x,(aM (i+1)).get c=C x->(c9 Vz.bQ c=q9)->S.get c=C x:=λc x hc hv=>by
  have:c9 S.bQ c=q9:=by rw[ew.bQ];exact hv
  rw[b5]at hc;obtain⟨_,g2⟩:=aE.get_some hc;rw[aE.get_eq,this];exact g2
 have b3:∀c,jY aM i c->((aM i).an<=c/\c<(aM (i+1)).an)\/(c<(aM i).an/\∃x,Vz.get c=C x/\x.live=J/\Vz.cg<=c):=λc n=>by
  by_cases L:(aM i).an<=c/\c<(aM (i+1)).an
  .exact .inl L
  .right;have K:gL Vz c:=auk λfx=>n (by have:=ew.can c (by rw[X,ez];omega) fx;rw[b5,aE.get_eq,aE.get_eq];show(if c9 (aM i).bQ c=J then o0 else S.t.get c)=_;rw[this,dd])
   obtain⟨h1,x,a,h3⟩:=K;exact⟨de c x a,x,a,h3,h1⟩
 have gy:∀c,jY aM i c->∀k,i<k->k<ops.size->D k=J->¬jY aM k c:=λc n k dt p hd eE=>by
  have fz:=R.bit i k hi U;rcases b3 c n with⟨h1,a⟩|⟨_,x,s,_,_⟩
  ·
   have gb:ops[k]? =C ops[k]:=aul p;obtain⟨W,w,K1,a1,a2,a3,a4,a5,a6,a7,a8,a9⟩:=R.step k _ gb;have gi:Can W K1:=by
    rcases a7 with⟨_,hh⟩|⟨_,_,hh⟩
    .exact uw R.can hh
    .rw[hh];exact .refl _
   have hm:=R.oV (i:=i+1) (j:=k) U U;refine eE ?_;have:K1.t.get c=W.t.get c:=gi.can c (.inl (by rw[a2];omega)) λK=>by obtain⟨_,x,s,_⟩:=K;obtain⟨A,g2⟩:=aE.get_some s;exact(a3 c U A).2.1 i dt (ey k p hd U) ⟨h1,a⟩
   rw[a9,aE.get_eq,aE.get_eq];show(if c9 (aM k).bQ c=J then o0 else K1.t.get c)=_;rw[this,a1]
  .have:=ds k c p U (.inl hd) fz eE;rw[s]at this;cases this
 have ck:∀c x m,aT aM (λj=>if j=i then J else D j) ops.size c=(C x,m)->(jY aM i c/\(aM (i+1)).get c=C x/\m=(aM (i+1)).an/\S.get c=C x/\c<(aM (i+1)).an)\/(¬jY aM i c/\aT aM D ops.size c=(C x,m)/\¬((aM i).an<=c/\c<(aM (i+1)).an)):=λc x m f=>by
  by_cases n:jY aM i c
  .left;rw[(Pt R hi).2 n (gy c n)]at f;simp only[at5]at f;have gj:c9 Vz.bQ c=q9:=by
    rcases b3 c n with⟨h1,a⟩|⟨_,y,r,_,_⟩
    .cases hh:c9 Vz.bQ c with
     |false=>rfl
     |true=>have h3:=fa c h1 hh;rw[b5]at f;obtain⟨A,_⟩:=aE.get_some f.1;have:c9 (aM i).bQ c=q9:=A;rw[h3]at this;cases this
    .exact(aE.get_some r).1
   refine⟨n,f.1,f.2.symm,dA c x f.1 gj,?_⟩;rcases b3 c n with⟨_,a⟩|⟨a,_⟩<;>omega
  .right;rw[(Pt R hi).1 n]at f;refine⟨n,f,λL=> ?_⟩;obtain⟨b,kk,h1,_⟩:=I.blk c x m f;have:=aX.rM _ _ _ _ h1;rw[e7 c L.1 L.2]at this;cases this
 have ea:∀c x m b k,aT aM D ops.size c=(C x,m)->x.live=J->ρ c=C (b,k)->Vz.get c=o0->∀l k0,gL Vz l->(ρ.iT (aM i).an) l≠C (b,k0):=λc x m b k f hl G hv l k0 K eb=>by obtain⟨_,y,r,b8⟩:=K;obtain⟨m0,_,ec⟩:=bh l y r;have:=I.inj l c y x m0 m b k0 k ec f b8 hl (aX.rM _ _ _ _ eb) G;subst this;rw[hv]at r;cases r
 have ed:∀l b k0,gL Vz l->(ρ.iT (aM i).an) l=C (b,k0)->h0 b=o0\/∃c1 k1,gL H c1/\fH c1=C (b,k1):=λl b k0 K G=>by
  have eF:=aX.rM _ _ _ _ G;obtain⟨hl,y,r,b8⟩:=K;obtain⟨m0,_,ec⟩:=bh l y r;rcases vy l H.an with hc|hc
  .right;refine⟨l,k0,?_,by rw[<- I.old l hc];exact eF⟩;refine gL.can (R.none i U).2 hc ⟨?_,y,bn l y r,b8⟩;rcases fb with e'|e'
   .omega
   .rw[<- e'];exact hl
  .exact I.lB l y m0 b k0 ec hc b8 eF
 refine⟨I.le.trans rN,λc hc=>by rw[az c U];exact I.old c hc,λt n=> ?_,λk o' t p hd b9=> ?_,λc x m f=> ?_,λc d x y m dG b k k' f Q s r h1 a=> ?_,λc hc G=> ?_,λb x hb b0=> ?_,λc x m b k f hc hl G=> ?_,λk p hd j hj=> ?_⟩
 ·
  have ag:o.dst≠C t:=n i o ho Y;have:b7 e o.dst bF t=e t:=by
   cases ee:o.dst with
   |none=>rfl
   |some u=>rw[eU,aL,if_neg (λe'=>ag (by rw[ee,e']))]
  rw[this];refine I.CM t λk o' p hd=>n k o' p ?_;split<;>first|rfl|exact hd
 .by_cases ab:k=i
  .subst ab;rw[ho]at p;cases p;have e1:b7 e o.dst bF t=bF:=by rw[b9,eU,aL,if_pos rfl]
   have e2:(dU (k+1)).rd t=v:=by rw[fc,b9,Ac,if_pos rfl]
   rw[e1,e2,<- dx];exact hv
  .have ef:D k=J:=by simpa[ab]using hd
   have ag:o.dst≠C t:=(R.two i k o o' t ho p (Ne.symm ab) b9).1;have:b7 e o.dst bF t=e t:=by
    cases ee:o.dst with
    |none=>rfl
    |some u=>rw[eU,aL,if_neg (λe'=>ag (by rw[ee,e']))]
   rw[this];exact(I.CN k o' t p ef b9).mono (aX.Hx rN _)
 ·
  rcases ck c x m f with⟨n,ca,rfl,gm,eL⟩|⟨n,ca,eT⟩
  .obtain⟨b,kk,h1,a⟩:=S'.blk c x gm;rw[dx]at h1 a;exact⟨b,kk,h1,a⟩
  .obtain⟨b,kk,h1,a⟩:=I.blk c x m ca;have e3:ρ c=C (b,kk):=aX.rM _ _ _ _ h1;have ba:B.iT m c=C (b,kk):=aX.Hx rN _ _ _ h1;refine⟨b,kk,ba,?_⟩;have e4:=a.mono (aX.Hx rN m);cases s:x.live with
   |false=>cases x<;>simp[cj.live]at s;trivial
   |true=>
    cases M:Vz.get c with
    |none=>obtain⟨y,r⟩:=a.isSome s;have:=F.lZ b y r (ea c x m b kk ca s e3 M);rw[this,<- r];exact e4
    |some x'=>
     obtain⟨dG,hD,Q⟩:=bh c x' M;rw[ca]at Q;simp only[at5,Option.some.injEq]at Q;obtain⟨rfl,rfl⟩:=Q;have eg:(aM (i+1)).get c=C x:=by have:(aM (i+1)).get c=(aM i).get c:=auk n;rw[this];exact bn c x M
     obtain⟨bG,k',N,q2⟩:=S'.blk c x (dA c x eg (aE.get_some M).1);have bm:c<(aM i).an:=de c x M;have:bq c=C (b,kk):=by rw[F.old c (by rw[X];exact bm),aX.qI bm];exact e3
     rw[this]at N;cases N;rw[dx]at q2;exact q2.level (aX.CL B U) e4
 ·
  have one:∀c d x y m b k k',jY aM i c->S.get c=C x->c<(aM (i+1)).an->aT aM D ops.size d=(C y,m)->¬jY aM i d->¬((aM i).an<=d/\d<(aM (i+1)).an)->x.live=J->y.live=J->B c=C (b,k)->B d=C (b,k')->c=d:=by
   intro c d x y m b k k' n f eL cb gp eT s r h1 a;have ba:bq c=C (b,k):=by rw[bt c,aX.qI eL];exact h1
   rw[az d eT]at a;cases M:Vz.get d with
   |some y'=>
    obtain⟨dG,_,Q⟩:=bh d y' M;rw[cb]at Q;simp only[at5,Option.some.injEq]at Q;obtain⟨rfl,_⟩:=Q;have e5:=de d y M;have eg:(aM (i+1)).get d=C y:=by have:(aM (i+1)).get d=(aM i).get d:=auk gp;rw[this];exact bn d y M
    exact S'.inj c d x y b k k' f (dA d y eg (aE.get_some M).1) s r ba (by rw[F.old d (by rw[X];exact e5),aX.qI e5];exact a)
   |none=>
    exfalso;rcases b3 c n with⟨N,q2⟩|⟨N,z,hz,ek,en⟩
    .rcases F.lB c x b k f (by rw[X];exact N) s ba with q3|⟨l,k0,q3,q4⟩
     .obtain⟨bE,k2,q5,q6⟩:=I.blk d y m cb;have:=aX.rM _ _ _ _ q5;rw[a]at this;cases this;obtain⟨w,K⟩:=q6.isSome r;rw[q3]at K;cases K
     .exact ea d y m b k' cb r a M l k0 q3 q4
    .have G:(ρ.iT (aM i).an) c=C (b,k):=by rw[<- F.old c (by rw[X];exact N)];exact ba
     exact ea d y m b k' cb r a M c k ⟨en,z,hz,ek⟩ G
  rcases ck c x m f with⟨bZ,_,_,A,cm⟩|⟨bZ,A,o1⟩<;>rcases ck d y dG Q with⟨cU,_,_,g2,l2⟩|⟨cU,g2,o2⟩
  .exact S'.inj c d x y b k k' A g2 s r (by rw[bt c,aX.qI cm];exact h1) (by rw[bt d,aX.qI l2];exact a)
  .exact one c d x y dG b k k' bZ A cm g2 cU o2 s r h1 a
  .exact(one d c y x m b k' k cU g2 l2 A bZ o1 r s a h1).symm
  .rw[az c o1]at h1;rw[az d o2]at a;exact I.inj c d x y m dG b k k' A g2 s r h1 a
 .by_cases L:(aM i).an<=c/\c<(aM (i+1)).an
  .exact⟨i,hi,Y,L.1,L.2⟩
  .rw[az c L]at G;obtain⟨k,p,hd,h1,a⟩:=I.dX c hc G;exact⟨k,p,by split<;>first|rfl|exact hd,h1,a⟩
 .refine F.lZ b x (I.lZ b x hb b0) λl k0 K eb=> ?_;rcases ed l b k0 K eb with q|⟨c1,k1,N,q2⟩
  .rw[hb]at q;cases q
  .exact b0 c1 k1 N q2
 .have out:∀b,h b=o0->h0 b=o0\/∃l k0,gL H l/\fH l=C (b,k0):=λb hb=>auk λb0=>by
   cases s:h0 b with
   |none=>exact b0 (.inl s)
   |some y=>have:=I.lZ b y s λl k0 K G=>b0 (.inr ⟨l,k0,K,G⟩);rw[hb]at this;cases this
  rcases ck c x m f with⟨bZ,_,_,A,cm⟩|⟨bZ,A,o1⟩
  .have ba:bq c=C (b,k):=by rw[bt c,aX.qI cm];exact G
   rcases b3 c bZ with⟨N,q2⟩|⟨N,z,hz,ek,en⟩
   .rcases F.lB c x b k A (by rw[X];exact N) hl ba with q3|⟨l,k0,q3,q4⟩
    .exact out b q3
    .exact ed l b k0 q3 q4
   .exact ed c b k ⟨en,z,hz,ek⟩ (by rw[<- F.old c (by rw[X];exact N)];exact ba)
  .rw[az c o1]at G;exact I.lB c x m b k A hc hl G
 .by_cases ab:k=i
  .subst ab;have:=bm j hj;split<;>first|rfl|exact this
  .have ef:D k=J:=by simpa[ab]using hd
   have:=I.closed k p ef j hj;split<;>first|rfl|exact this
end
def Pu:∀(l:List sa) (a:List Nat),(kJ l a).length=a.length+l.length
 | [],a=>by simp[kJ]
 |o::l,a=>by rw[kJ,Pu l];simp;omega
def Hz:∀(l:List sa) (a:List Nat) (j:Nat),j<a.length->(kJ l a)[j]? =a[j]?
 | [],a,j,_=>by rw[kJ]
 |o::l,a,j,b=>by rw[kJ,Hz l _ j atB,avE b]
def HA{b:List Nat}{j:Nat}:∀(l:List Edge) (s:Nat),atE (uj b l s) j=J->atE s j=J\/∃x∈l,atV .any x=J/\(x.on=j\/atE ((mZ b x.on).getD 0) j=J)
 | [],s,h=>.inl h
 |x::l,s,h=>by
  simp only[uj]at h;cases hb:atV .any x with
  |false=>
   rw[hb,cond_false]at h;rcases HA l s h with q|⟨y,a,q⟩
   .exact .inl q
   .exact .inr ⟨y,avz _ a,q⟩
  |true=>
   rw[hb,cond_true]at h;rcases HA l _ h with q|⟨y,a,q⟩
   .simp only[Nat.testBit_or,auU,Nat.testBit_two_pow,decide_eq_true_eq]at q;rcases q with q|q|q
    .exact .inl q
    .exact .inr ⟨x,awE,hb,.inl q⟩
    .exact .inr ⟨x,awE,hb,.inr q⟩
   .exact .inr ⟨y,avz _ a,q⟩
def Pv:∀(l:List sa) (a:List Nat) (i:Nat) (o:sa),l5 a.length l=J->l[i]? =C o->∀j,atE (gE (kJ l a) (a.length+i)) j=J->∃x∈o.after,atV .any x=J/\(x.on=j\/atE (gE (kJ l a) x.on) j=J)
 | [],a,i,o,_,h,_,_=>by simp at h
 |aB::l,a,i,o,c,h,j,b=>by
  have e:=c;simp only[l5,vh]at c;cases i with
  |zero=>
   simp at h;subst h;have f:gE (kJ (aB::l) a) a.length=uj a aB.after.toList 0:=by unfold gE;rw[rH,kJ,Hz l _ _ Y];simp
   rw[asg,f]at b;rcases HA _ _ b with q|⟨x,d,hb,q⟩
   .simp at q
   .refine⟨x,by simpa using d,hb,q.imp id λq=> ?_⟩;have g:=CG _ _ e 0 aB Y x (by simpa using d) hb;unfold gE;rw[rH,kJ,Hz l _ _ atB,avE U,<- rH];exact q
  |succ i=>
   have:=Pv l (a++[uj a aB.after.toList 0]) i o (by simpa using c.2) (by simpa using h) j (by rw[kJ]at b;rw[show(a++[uj a aB.after.toList 0]).length+i=a.length+(i+1)by simp;omega];exact b)
   rw[kJ];exact this
section
variable{P:tb}{main:Bool}{ai:Type}{Sy:Sys ai}{Jz:ai->Prop}{aQ:Nat}{call:vb->List o5->aE->Option (o5×aE)}{ops:Array sa}{bef:List Nat}{cC:List (Nat×Nat)}{E:cL}{H:aE}{fH:aX}{h0:ae}{e0:Env}{dU:Nat->cL}{aM:Nat->aE}{D:Nat->Bool}
def m8.still(R:m8 P call ops cC aQ E H fH h0 e0 bef dU aM){t i:Nat}:∀{j:Nat},i<=j->j<=ops.size->(∀k o,i<=k->k<j->ops[k]? =C o->o.dst≠C t)->(dU j).rd t=(dU i).rd t:=by
 intro j
 induction j with
 |zero=>
      intro h _ _;have:i=0:=U
      subst this;rfl
 |succ j b=>
  intro l m a;rcases vy i (j+1)with h|h
  .have c:ops[j]? =C ops[j]:=aul U;obtain⟨_,_,_,_,_,_,_,_,_,_,d,_⟩:=R.step j _ c;rw[d];have f:=a j _ U U c;cases hd:(ops[j]).dst with
   |none=>exact b U U λk o h1 g=>a k o h1 U
   |some u=>rw[Ac,if_neg (λe=>f (by rw[hd,e]))];exact b U U λk o h1 g=>a k o h1 U
  .have:i=j+1:=U
   subst this;rfl
def aax(S:cD P aQ fH H.get H.an h0):fH.iT H.an=fH:=funext λc=>by
 rcases vy c H.an with h|h
 .exact aX.qI h
 .rw[aX.Hw h,S.dX c h]
def sU.rd(R:m8 P call ops cC aQ E H fH h0 e0 bef dU aM){ρ:aX}{e:Env}{h:ae}(I:sU P ops bef aQ E H fH h0 dU aM D ρ e h){i:Nat}{o:sa}(m:ops[i]? =C o)(hi:i<ops.size)(u:D i=q9)(v:∀j,atE (gE bef i) j=J->D j=J)
  {t:Nat} (r:t∈(eY P ops o).reads):bj (ρ.iT (aM i).an) ((dU i).rd t) (e t):=by
 have base:(∀k a,ops[k]? =C a->D k=J->a.dst≠C t)->(∀k a,0<=k->k<i->ops[k]? =C a->a.dst≠C t)->bj (ρ.iT (aM i).an) ((dU i).rd t) (e t):=λh1 p=>by
  rw[R.still (awu i) U p,R.sS];refine(I.CM t h1).mono λc x hc=> ?_;have B:c<H.an:=avg λl=>by rw[R.nK.dX c l]at hc;cases hc
  have:=R.oV (i:=0) (j:=i) U U;rw[R.lH]at this;rw[aX.qI U];exact I.le c x hc
 by_cases q:∃(k:Nat) (a:sa),ops[k]? =C a/\a.dst=C t
 .obtain⟨k,a,d,hd⟩:=q;have s:k<ops.size:=(auv.1 d).1;have w:i≠k:=λA=>by subst A;rw[m]at d;cases d;exact(R.own i o t m hd).1 r
  have only:∀k' b,ops[k']? =C b->b.dst=C t->k'=k:=λk' b g f=>auk λy=>(R.two k' k b a t g d y hd).1 f;rcases(R.two i k o a t m d w hd).2 r with hb|hb
  .have F:k<i:=avg λl=>by rw[R.bit i k hi l]at hb;cases hb
   have:=I.CN k a t d (v k hb) hd;rw[R.still (i:=k+1) (j:=i) U U (λk' b h1 p g f=>by have:=only k' b g f;omega)];exact this.mono (aX.CL ρ (R.oV U U))
  .have G:i<k:=avg λl=>by rw[R.bit k i s l]at hb;cases hb
   have z:D k=q9:=by
    cases f:D k with
    |false=>rfl
    |true=>have:=I.closed k s f i hb;rw[u]at this;cases this
   refine base (λk' b g f n=> ?_) λk' b _ p g n=> ?_
   .have:=only k' b g n;subst this;rw[z]at f;cases f
   .have:=only k' b g n;omega
 .exact base (λk a d _ hd=>q ⟨k,a,d,hd⟩) λk a _ _ d hd=>q ⟨k,a,d,hd⟩
def aay{ρ:aX}{e:Env}{E:cL}{j t:Nat}{w:Bool}(c:bj ρ (E.rd t) (e t))(d:(ops[j]?).bind (·.dst)=C t):ko E (C (t,w))=(jV ops e j==C w):=by
 unfold ko jV;rw[d];simp only;generalize E.rd t=a at c ⊢;generalize e t=f at c ⊢;cases c<;>first|rfl|skip
 rename_i b;cases b<;>cases w<;>rfl
def aaz{D b:Nat->Bool}{n c:Nat}(h:∀k,k<n->D k=b k):aT aM D n c=aT aM b n c:=by
 induction n with
 |zero=>rfl
 |succ n a=>
  have e:=h n U;have a:=a λk d=>h k U;by_cases hc:D n=J/\jY aM n c
  .rw[vT hc.1 hc.2,vT (e▸hc.1) hc.2]
  .rw[qJ hc,qJ (λq=>hc ⟨e.trans q.1,q.2⟩),a]
def sU.congr(R:m8 P call ops cC aQ E H fH h0 e0 bef dU aM){l:Nat->Bool}(f:∀i,i<ops.size->D i=l i){ρ:aX}{e:Env}{h:ae}(I:sU P ops bef aQ E H fH h0 dU aM D ρ e h):sU P ops bef aQ E H fH h0 dU aM l ρ e h:=by
 have lt:∀{k o},ops[k]? =C o->k<ops.size:=λa=>(auv.1 a).1;have g:∀c,aT aM l ops.size c=aT aM D ops.size c:=λc=>(aaz f).symm;refine⟨I.le,I.old,λt r=>I.CM t λk o a hd=>r k o a (by rw[<- f k (lt a)];exact hd),λk o t a hd=>I.CN k o t a (by rw[f k (lt a)];exact hd),λc x m n=>I.blk c x m (by rw[<- g];exact n),λc d x y m dG b k k' h1 v=>I.inj c d x y m dG b k k' (by rw[<- g];exact h1) (by rw[<- g];exact v),λc hc s=> ?_,I.lZ,λc x m b k n=>I.lB c x m b k (by rw[<- g];exact n),λk a hd j p=> ?_⟩
 .obtain⟨k,a,hd,q⟩:=I.dX c hc s;exact⟨k,a,by rw[<- f k a];exact hd,q⟩
 .have w:j<k:=avg λu=>by rw[R.bit k j a u]at p;cases p
  rw[<- f j U];exact I.closed k a (by rw[f k a];exact hd) j p
def HB(dS:P.follows .mixedOrders=J)(hC:qH P main Sy Jz aQ call)(hK:rL call):CB P main Sy Jz aQ call:=by
 intro b d ops cC E dz H H' fH h0 e0 aP x N ea ad ds X bl hJ hE A;simp only[vh]at ad;obtain⟨bn,ad⟩:=ad;generalize bp:kJ ops.toList []=bef at ad ds;have dt:bef.length=ops.size:=by rw[<- bp,Pu];simp
 obtain⟨dU,aM,r1,r2,r3,r4,r5,r6⟩:=aau P call ops bef cC ops.toList bef 0 [] E H (λ_=>E) (λ_=>H) (λj r=>by
  have:j<bef.length:=by rw[dt];simpa using r
  rw[atI,Q4 this];simp[gE,rH,Q4 this]) rfl rfl (λk u=>by omega) (λk lo hi h=>by cases h) ds
 refine⟨r5,λt=> ?_⟩;have bs:∀j o,ops[j]? =C o->(ops.toList.map (eY P ops))[j]? =C (eY P ops o):=λj o r=>by rw[List.getElem?_map,awY,r];rfl
 have bk:=λi o (hi:ops[i]? =C o)=>Hy _ _ ad i _ (bs i o hi);simp only[atI,vh]at bk;have R:m8 P call ops cC aQ E H fH h0 e0 bef dU aM:=by
  refine⟨r1 0 (vr _),r2 0 (vr _),X,bl,hE,hK,λj o r=>by simpa using r6 j o (by rw[awY];exact r),λj o r y B=> ?_,λi k hi ee=> ?_,λi k o G t hi u ef hd=> ?_,λi o t hi hd=> ?_,dt⟩
  .have:=G0.1 ea (eY P ops o) (List.mem_of_getElem? (bs j o r));exact G0.1 this y B
  .have bt:=rJ (bk i _ (aul hi)).1.1;exact Nat.testBit_lt_two_pow (auj bt (Nat.pow_le_pow_right U ee))
  .have:=Hy _ _ (bk i o hi).1.2 k _ (bs k G u);rw[atI]at this;have hn:td i k=q9:=by cases hb:td i k with|false=>rfl|true=>exact absurd (beq_eq hb) ef
   rw[hn,Bool.false_or,CK,hd]at this;simp only[vh,auU,avp,CK]at this;refine⟨λL=>by rw[L]at this;simp at this,λht=> ?_⟩;rcases this.2 with q|q
   .exact q
   .rw[axS.2 ht]at q;cases q
  .have:=(bk i o hi).2;rw[CK,hd]at this;simp only[vh,avp]at this;refine⟨λht=>by rw[axS.2 ht]at this;exact absurd this.1 Y,λk w u L=> ?_⟩;have:=G0.1 this.2 (k,w) u;subst L;simp at this
 have eg:0+ops.toList.length=ops.size:=Y
 rw[eg]at r3 r4;unfold Region.schedule;rw[dS,Bool.true_or,if_pos rfl];refine uu bn (λD e s h=>Jz s/\∃ρ,sU P ops bef aQ E H fH h0 dU aM D ρ e h) (λD D' e s h hD ⟨q,ρ,I⟩=>⟨q,ρ,I.congr R hD⟩) (λD e s h i o ⟨bb,ρ,I⟩ hi b3 Q ek=> ?_) (λD e s h ⟨bb,ρ,I⟩ cm=> ?_) ?_ t
 ·
  have b4:∀j,atE (gE bef i) j=J->D j=J:=λj r=>by
   rw[<- bp]at r;obtain⟨y,B,hb,q⟩:=Pv ops.toList [] i o bn (by rw[awY];exact Q) j (by simpa using r);have cp:=ek y B hb;have bt:=CG ops.toList 0 bn i o (by rw[awY];exact Q) y B hb;rcases q with q|q
   .rw[<- q];exact cp
   .rw[bp]at q;exact I.closed y.on U cp j q
  obtain⟨Vz,v,H1,a1,a2,a3,a4,a5,a6,a7,a8,a9⟩:=R.step i o Q;have S:Can Vz H1:=by
   rcases a7 with⟨_,hh⟩|⟨_,_,hh⟩
   .exact uw hK hh
   .rw[hh];exact .refl _
  have ep:∀c,(aM i).an<=c->c9 Vz.bQ c=J->c9 (aM i).bQ c=J:=λc hc hv=>by
   rcases a4 c hc hv with q|⟨k,u,q⟩|⟨k,w,u,q⟩
   .exact q
   .have:=R.oV (i:=k+1) (j:=i) U U;omega
   .exfalso;rw[R.still (i:=0) (j:=i) (awu _) U (λk' G _ _ ag hd=>(R.own k' G w ag hd).2 k w u rfl),R.sS]at q;have b6:=hE w;generalize E.rd w=a at q b6;generalize e0 w=a' at b6;cases b6<;>simp[nA]at q;rename_i bG k' G L;rw[q]at L;have bt:c<H.an:=avg λer=>by rw[X.dX c er]at L;cases L
    have:=R.oV (i:=0) (j:=i) U U;rw[R.lH]at this;omega
  obtain⟨bd,c6⟩:=I.next R Q hi b3 b4 a1 a2 a3 ep a5 (a6.imp And.left And.left) S a8 a9;have M:R9 o (jV ops e)=ko (dU i) (eY P ops o).g\/(ko (dU i) (eY P ops o).g=J/\(eY P ops o).op=.bad):=by
   cases l:o.guard with
   |none=>left;simp only[eY,l,R9,ko]
   |some p=>
    obtain⟨j,w⟩:=p;cases r:(ops[j]?).bind (·.dst)with
    |some t=>
     left;have et:t∈(eY P ops o).reads:=by unfold eY;simp only[l,r,mY.reads,D3,List.mem_singleton,true_or]
     have:=aay (w:=w) (I.rd R Q hi b3 b4 et) r;simp only[eY,l,r,R9];exact this.symm
    |none=>right;simp only[eY,l,r,ko,and_self]
  rcases a7 with⟨hw,F⟩|⟨hw,hv,hH⟩
  .have M:R9 o (jV ops e)=ko (dU i) (eY P ops o).g:=by
    rcases M with M|⟨_,ew⟩
    .exact M
    .rw[ew]at F;simp only[cy]at F;cases F
   rw[M,hw,if_pos rfl];have ey:cy call (dU i) Vz (qF P o)=C (v,H1):=by
    have:(eY P ops o).op=qF P o\/(eY P ops o).op=.bad:=by
     unfold eY;split
     .exact .inl rfl
     .split
      .exact .inl rfl
      .exact .inr rfl
    rcases this with L|L
    .rw[L]at F;exact F
    .rw[L]at F;simp only[cy]at F;cases F
   have ez:(eY P ops o).op=qF P o:=by
    unfold eY at F ⊢;split at F
    .rename_i l;simp only
    .rename_i j w l;split at F
     .rename_i t r;simp only
     .simp only[cy]at F;cases F
   refine pz (Hn (Jz:=Jz) ey bd (by rw[a2];exact atD bl (by have:=R.oV (i:=0) (j:=i) U U;rw[R.lH]at this;exact this)) bb hC (λy B=> ?_) λs' bq h' v' q1 q2 q3 q4=> ?_)
   .rw[<- ez]at B;cases y with
    |tmp t=>exact I.rd R Q hi b3 b4 (by unfold mY.reads;exact D3.2 (.inr (Pq B)))
    |const c=>exact Cj (R.Pr i o Q _ B)
    |global g=>exact .ptr 0 (bd.rI g (rJ (R.Pr i o Q _ B)))
    |func f=>exact .func f .nil .nil
   .exact⟨rfl,q1,c6 bq h' v' q2 q3 q4⟩
  .have M:R9 o (jV ops e)=ko (dU i) (eY P ops o).g:=by
    rcases M with M|⟨dd,_⟩
    .exact M
    .rw[hw]at dd;cases dd
   rw[M,hw,if_neg Y];subst hv;subst hH;exact⟨bb,c6 _ h undef bd bj.undef (gq.refl bd)⟩
 ·
  refine⟨hJ,fH,.refl _,λ_ _=>rfl,λt _=>hE t,(λk o t _ hd=>by cases hd),λc y m l=> ?_,λc bJ y z m dG b k k' l az B hz h1 K=> ?_,λc hc W=>absurd (X.dX c hc) W,λb y hb _=>hb,(λc y m b k l hc hl W=>by rw[X.dX c hc]at W;cases W),(λk _ hd=>by cases hd)⟩
  all_goals
   have g0:∀n c,aT aM (λ_=>q9) n c=(H.get c,H.an):=λn c=>by
    induction n with
    |zero=>show((aM 0).get c,(aM 0).an)=_;rw[R.lH]
    |succ n ih=>rw[qJ (λq=>by cases q.1),ih]
  .rw[g0]at l;simp only[at5]at l;obtain⟨h1,rfl⟩:=l;rw[aax X];exact X.blk c y h1
  .rw[g0]at l az;simp only[at5]at l az;exact X.inj c bJ y z b k k' l.1 az.1 B hz h1 K
 ·
  have eL:∀j c,j<=ops.size->∃m,m<=(aM j).an/\aT aM D j c=((aM j).get c,m):=by
   intro j c
   induction j with
   |zero=>intro _;exact⟨_,vr _,rfl⟩
   |succ j ih=>
    intro r;obtain⟨m,h1,K⟩:=ih U;by_cases hc:jY aM j c
    .rw[vT (cm j U) hc];exact⟨_,vr _,rfl⟩
    .rw[qJ (λq=>hc q.2),K];have:(aM (j+1)).get c=(aM j).get c:=auk hc;exact⟨m,atD h1 (R.oV U U),by rw[this]⟩
  have S:=(R.none ops.size (vr _)).2;rw[r4]at S;have bh:∀c x,H'.get c=C x->∃m,aT aM D ops.size c=(C x,m):=λc x hc=>by obtain⟨m,_,K⟩:=eL ops.size c (vr _);rw[r4,hc]at K;exact⟨m,K⟩
  have hS:cD P aQ ρ H'.get H'.an h:=by
   refine⟨λc y hc=> ?_,λc bJ y z b k k' hc e1 B hz h1 K=> ?_,λc hc=> ?_,λg l=> ?_⟩
   .obtain⟨m,l⟩:=bh c y hc;obtain⟨b,kk,h1,K⟩:=I.blk c y m l;exact⟨b,kk,aX.rM _ _ _ _ h1,K.mono (aX.rM _ _)⟩
   .obtain⟨m,l⟩:=bh c y hc;obtain⟨dG,az⟩:=bh bJ z e1;exact I.inj c bJ y z m dG b k k' l az B hz h1 K
   .cases W:ρ c with
    |none=>rfl
    |some q=>exfalso;obtain⟨k,u,_,_,h4⟩:=I.dX c (atD S.an hc) (by rw[W];simp);have:=R.oV (i:=k+1) (j:=ops.size) U (vr _);rw[r4]at this;omega
   .rw[I.old g (auj l bl)];exact X.rI g l
  refine A s ρ e h bb hS (λt=> ?_) ⟨I.le,I.old,S.an,S.cg,S.bQ,λc hc hn=>S.can c (.inl hc) hn,I.lZ,λc y bG k hc hn hl W=> ?_⟩
  .rw[<- r3];by_cases hw:∃(k:Nat) (G:sa),ops[k]? =C G/\G.dst=C t
   .obtain⟨k,G,u,hd⟩:=hw;have e2:k<ops.size:=(auv.1 u).1;rw[R.still (i:=k+1) (j:=ops.size) U (vr _) (λk' ca h1 K ag cb=>(R.two k' k ca G t ag u U hd).1 cb)];exact(I.CN k G t u (cm k e2) hd).mono (aX.rM _ _)
   .rw[R.still (i:=0) (j:=ops.size) U (vr _) (λk' ca h1 K ag cb=>hw ⟨k',ca,ag,cb⟩),R.sS];exact(I.CM t λk G u _ hd=>hw ⟨k,G,u,hd⟩).mono I.le
  .obtain⟨m,l⟩:=bh c y hc;exact I.lB c y m bG k l hn hl W
end
def dV(f id:Nat):List (Nat×Nat):=cond (td f 21&&td id 15) [(17,11)] []
noncomputable def HC(f:Nat)(fn:Func):vz:=⟨fn.ntmps,comp pv (dV f) (fn.body.getD .skip),fn.results.toList.filterMap (ZC pv)⟩
noncomputable def Pw(f:Nat):Bool:=match pv.funcs[f]? with
 |some fn=>fn.body.isSome&&(fN fn.ntmps (fn.body.getD .skip)&&((HC f fn).body.iy 12&&(iJ pv (dV f) (fn.body.getD .skip)&&(vQ pv fn.ntmps fn.results.toList (HC f fn).res&&bz pv f))))
 |none=>q9
def HD:List Nat:=[7,16,17,18,19,20,21,22,23,24,25,26,27,28,29,30,31,32,33,46,51,52,53,54,55,56,57,59,60,61,62,63,64,65,66,67,68,69,88,89,90,91,92,93,94,95,97,99,101,104,105,106,107,112,140,141,142,144,145,146,153,154,159,163,186,187,188,189,190,191,192,206,210,211,212,218,220,222,223,228,250,275,276,277,278,279,280,281,282,283,284,285,286,287,288,289,290]
def aaA:HD.all Pw=J:=O
noncomputable def fp(f:vb):Option vz:=cond (HD.any (td f)) ((pv.funcs[f]?).map (HC f)) o0
def aaB(f:vb)(F:vz)(h:fp f=C F):Pm pv 12 f F:=by
 unfold fp at h;cases hb:HD.any (td f)with
 |false=>rw[hb]at h;cases h
 |true=>
  rw[hb,cond_true]at h;obtain⟨n,i,e⟩:=List.any_eq_true.1 hb;obtain rfl:=Nat.eq_of_beq_eq_true e;have a:=G0.1 aaA _ i;unfold Pw at a;cases b:pv.funcs[f]? with
  |none=>rw[b]at h;cases h
  |some fn=>rw[b]at h a;cases h;simp only[vh]at a;obtain⟨m,g,j,d,k,l⟩:=a;obtain⟨c,hc⟩:=Option.isSome_iff_exists.1 m;rw[hc]at g d;refine⟨⟨fn,c,dV f,b,hc,rfl,g,?_,j,d,k⟩,l⟩;show comp pv (dV f) c=comp pv (dV f) (fn.body.getD .skip);rw[hc];rfl
def eR:pv.follows .mixedOrders=J:=O
def HE{main:Bool}{ai:Type}(Sy:Sys ai)(Jz:ai->Prop)(orc:vb->List o5->aE->Option (Option (o5×aE)))
  (b:qH pv main Sy Jz 12 λf a H=>match orc f a H with|some r=>r|none=>o0) (hc:rL λf a H=>match orc f a H with|some r=>r|none=>o0) (m:Nat):
  qH pv main Sy Jz 12 (eP fp orc m):=
 aap fp orc aaB b (λm h=>HB eR h (CJ hc m)) m
def iU:vb->List o5->aE->Option (Option (o5×aE)):=λ_ _ _=>o0
def uy:List cj->aE->aE
 | [],H=>H
 |x::l,H=>uy l (H.pC x λ_ H=>H)
def gd(l:List cj):aE:=let H:=uy l ⟨.nil,12,0,[]⟩;{H with cg:=H.an}
def HF:∀(l:List cj) (H:aE),(∀c,H.an<=c->H.t.get c=o0)->H.bQ=[]->(uy l H).an=H.an+l.length/\(uy l H).bQ=[]/\∀c,(uy l H).t.get c=if c<H.an then H.t.get c else l[c- H.an]?
 | [],H,a,hh=>⟨rfl,hh,λc=>by
   show H.t.get c=_;split
   .rfl
   .rw[a c U];simp⟩
 |x::l,H,a,hh=>by
  unfold uy;rw[aE.qD];have e:∀c,(H.new x).an<=c->(H.new x).t.get c=o0:=λc hc=>by have d:H.an+1<=c:=hc;rw[aE.ug,if_neg U];exact a c U
  obtain⟨a1,a2,a3⟩:=HF l (H.new x) e hh;refine⟨by rw[a1];show H.an+1+l.length=_;simp;omega,a2,λc=> ?_⟩;rw[a3,aE.ug];show(if c<H.an+1 then(if c=H.an then C x else H.t.get c)else l[c- (H.an+1)]?)=if c<H.an then H.t.get c else(x::l)[c- H.an]?
  by_cases h1:c<H.an
  .rw[if_pos U,if_neg U,if_pos h1]
  .rw[if_neg h1];by_cases b:c=H.an
   .subst b;simp
   .rw[if_neg U];have:c- H.an=(c- (H.an+1))+1:=U
    rw[this];simp
def xR(l:List cj)(c:Nat):(gd l).get c=if c<12 then o0 else l[c- 12]? :=by
 obtain⟨a1,a2,a3⟩:=HF l ⟨.nil,12,0,[]⟩ (λc _=>dp.get_nil c) rfl;rw[aE.get_eq];have:c9 (gd l).bQ c=q9:=by show c9 (uy l ⟨.nil,12,0,[]⟩).bQ c=q9;rw[a2];rfl
 rw[this];show(uy l ⟨.nil,12,0,[]⟩).t.get c=_;rw[a3];show(if c<12 then dp.nil.get c else _)=_;rw[dp.get_nil]
def vU(l:List cj):(gd l).an=12+l.length:=(HF l ⟨.nil,12,0,[]⟩ (λc _=>dp.get_nil c) rfl).1
def CO(l:List cj):(gd l).cg=12+l.length:=vU l
def iz(bs:List (Nat×Nat)):aX:=λc=>if c<12 then C (c,0)else bs[c- 12]?
def Px{cbs:List cj}{bs:List (Nat×Nat)}{h:ae}(m:bs.length=cbs.length)(fP:∀(i j b k k':Nat),bs[i]? =C (b,k)->bs[j]? =C (b,k')->i=j)(hb:∀(i:Nat) (x:cj) (b k:Nat),cbs[i]? =C x->bs[i]? =C (b,k)->Bk pv (iz bs) k x (h b)):cD pv 12 (iz bs) (gd cbs).get (gd cbs).an h:=by
 refine⟨λc x a=> ?_,λc d x y b k k' a e _ _ h1 l=> ?_,λc hc=> ?_,λg n=>by simp[iz,n]⟩
 .rw[xR]at a;split at a
  .cases a
  .rename_i hc;have o:c- 12<bs.length:=by rw[m];exact(F1.1 a).1
   have f:bs[c- 12]? =C bs[c- 12]:=Q4 o;exact⟨bs[c- 12].1,bs[c- 12].2,by simp only[iz,if_neg hc,f],hb _ _ _ _ a f⟩
 .rw[xR]at a e;split at a
  .cases a
  .split at e
   .cases e
   .rename_i hc hd;simp only[iz,if_neg hc,if_neg hd]at h1 l;have:=fP _ _ _ _ _ h1 l;omega
 .rw[vU]at hc;simp only[iz,if_neg (U:¬c<12)];rw[List.getElem?_eq_none U]
def uz{main:Bool}{ai:Type}{Sy:Sys ai}{cbs:List cj}{bs:List (Nat×Nat)}{h:ae}{m:Nat}{f:vb}{args:List o5}{args':List o5}{v:o5}{H':aE}{s:ai}(a:eP fp iU m f args (gd cbs)=C (v,H'))
  (o:bs.length=cbs.length) (fP:∀(i j b k k':Nat),bs[i]? =C (b,k)->bs[j]? =C (b,k')->i=j) (hb:∀(i:Nat) (x:cj) (b k:Nat),cbs[i]? =C x->bs[i]? =C (b,k)->Bk pv (iz bs) k x (h b)) (p:cT (iz bs) args args'):
  bz pv f=J/\bo pv main Sy f ⟨args'⟩ s h λd h' n=>d=s/\h.ar h'/\∃bq,cD pv 12 bq H'.get H'.an h'/\bj bq v n/\gq (gd cbs) (iz bs) h H' bq h':=by
 have hc:=HE (main:=main) Sy (λd=>d=s) iU (λf xs v H H' a=>by cases a) (λf xs v H H' a=>by cases a) m;obtain⟨w,q⟩:=hc f args v (gd cbs) H' a (iz bs) h args' s (Px o fP hb) p (by rw[vU];omega) rfl;refine⟨w,q.mono λd h' n ⟨e,bq,r,t,l⟩=>⟨e,λb x u=>l.lZ b x u λc k z _=> ?_,bq,r,t,l⟩⟩;obtain⟨A,y,g,_⟩:=z;rw[CO]at A;rw[xR]at g;split at g
 .cases g
 .have:=(F1.1 g).1;omega
end
end Go.Nk
