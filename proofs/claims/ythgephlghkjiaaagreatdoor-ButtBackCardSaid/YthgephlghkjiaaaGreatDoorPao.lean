/- Part Pao of the proof of ButtBack: lemmas. -/
import Derived.Test.YthgephlghkjiaaaGreatDoorPan
set_option maxRecDepth 100000
set_option maxHeartbeats 4000000
set_option linter.all false
namespace Go.Nk
noncomputable section
open Go Go.Conc Go.Proofs
section
open Go.ConcM (OsLater muBlock MuAt muA msA)
section
variable{tM tW:TypeId}{os0:eB}{Post:Value->World->Prop}{i:Nat}{bm s:ay}{h:ab}{bd bG bH:Nat}{g:List cT}
variable{K:eZ->Env->List Deferred->ay->ab->Prop}{e:Env}
def HE(i:Nat)(bm:ay)(bd:Nat)(g:List cT)(h0:ab)(s:ay)(h:ab)(v:Value):Prop:=dO i bm s .out 0 bd false g/\h=h0
theorem aix{x:Array Value}{K:ay->ab->Value->Prop}{gd':ab}{mg':Nat->List cT}(hm:bm.mu=bG)(cur:dO i bm s .own 0 bd true g)(aa:x=#[.pointer (some ⟨bG,0,none⟩)])
  (bU:s.I mg' gd') (qG:∀j,j≠i->mg' j=s.cL j) (hK:∀b x,gd' b=some x->h b=some x) (hgo:gd'.kR)
  (k:∀ai,dO i bm ai .own 0 bd false (mg' i)->K ai (h.del gd') (.tuple #[])):
  eX Tryz.prog false (ep tM tW os0 Post i) 127 x s h (K:=⟨K⟩):=by
 obtain rfl:s.mu=bG:=cur.c7.mu.trans hm;subst aa;have eD:s.cw=some i:=cur.cw.2 rfl;refine anH cur.w Xf rfl cur.bH eD gd' (fun γ a8=>⟨mg',fun j ae=>by rw [qG j ae,a8.rel.C9 eD],by rw [a8.rel.I];exact bU,fun hd=> ?_⟩) hK hgo;have c:=cur.rel a8;exact k _ ⟨⟨c.w.pos,c.w.on,c.w.wk,c.w.n0,c.w.aR⟩,c.cap,c.dj,⟨c.c7.aR,c.c7.cap,c.c7.n0,c.c7.mu,c.c7.wg,c.c7.on,c.c7.I,c.c7.full,c.c7.wd⟩,c.md,c.di,hd,⟨(fun e=>by cases e),(fun e=>by cases e)⟩,rfl⟩
theorem UT{x:Array Value}{r:List Value}{K:ay->ab->Value->Prop}(hm:bm.mu=bG)(cur:dO i bm s .rel bH bd false g)(aa:x=⟨.pointer (some ⟨bG,1,none⟩)::r⟩)
  (k:∀ai,dO i bm ai .out bH bd false g->K ai h (.tuple #[])):eX Tryz.prog false (ep tM tW os0 Post i) 202 x s h (K:=⟨K⟩):=by
 obtain rfl:s.mu=bG:=cur.c7.mu.trans hm;refine anE cur.w anO aa cur.cap cur.md (fun γ a8=> ?_) fun γ a8=> ?_
 ·have:=a8.ok.lU;omega
 ·exact k _ (cur.bB a8 cK.oL (cur.rel a8).di UR)
def X9(i:Nat)(bm:ay)(bd:Nat)(g:List cT)(h0:ab)(s:ay)(h:ab)(v:Value):Prop:=dO i bm s .out 1 bd false g/\h=h0
section
variable{P:Program}{xt:TypeId}{x y:Operand}[ay4:KK Value]{W c:Nat}
theorem We(hW:W<134217728)(hc:c<7):au P (cr .add xt x y (.int .i32 (8*W+c:Nat)) (.int .i32 1)) h=ay4.f (.int .i32 (8*W+(c+1):Nat)) h:=by
 rw [tt,show ((8*W+c:Nat):Int)+1=((8*W+(c+1):Nat):Int) by omega,wrap32 (by omega)]
end
structure avZ(i:Nat)(bm:ay)(bG bd:Nat)(g:List cT)(e:Env)(s:ay)(W c p:Nat)(m:a7):Prop where
 e0:e 0=.pointer (some ⟨bG,0,none⟩)
 e4:e 4=.int .i32 (8*W+c:Nat)
 cur:dO i bm s m 1 bd false g
 eN:c<8
 qT:W<100000000
 fx:(m=.out/\(W=0\/c≠0))\/(m=.jV/\W≠0/\c=0/\Old s p (8*W))
def QE(i:Nat)(bm:ay)(bG bd:Nat)(g:List cT)(h0:ab)(n:Nat)(e:Env)(d:List Deferred)(s:ay)(h:ab):Prop:=
 d=[]/\h=h0/\∃W c m,avZ i bm bG bd g e s W c n m
theorem aiy{n:Nat}{d:List Deferred}{h':ab}(hm:bm.mu=bG)(hh:h bG=none)(J:QE i bm bG bd g h n e d s h')
  (RR:∀e ai,dO i bm ai .out 1 bd false g->K .ret e [] ai h) (kC:∀e d s h' m,m<n->QE i bm bG bd g h m e d s h'->K .cB e d s h'):
  cF Tryz.prog false (ep tM tW os0 Post i) 43 (fE 174) Gl K e d s h':=by
 obtain ⟨rfl,rfl,W,c,m,I⟩:=J;have e0:=I.e0;have e4:=I.e4;have ot:=I.eN;have qT:=I.qT;have fc:W<134217728:=by omega
 rcases I.fx with ⟨rfl,aE⟩|⟨rfl,hw,rfl,aQ⟩
 ·by_cases hw:W=0
  ·have hb:(((W:Nat):Int)==0)=true:=by simpa using hw
   simp only [bc,undef,seval,KN,KM,Km,Kl,j5,bne,seval,fc,ot,e4,hb];exact RR _ _ I.cur
  ·have hb:(((W:Nat):Int)==0)=false:=by simpa using hw
   have ZO:c≠0:=by omega
   have h7:c=1\/c=2\/c=3\/c=4\/c=5\/c=6\/c=7:=by omega
   rcases h7 with rfl|rfl|rfl|rfl|rfl|rfl|rfl<;>simp only [bc,undef,seval,KN,KM,Km,Kl,j5,bne,seval,fc,e4,hb]<;>exact RR _ _ I.cur
 ·have hb:(((W:Nat):Int)==0)=false:=by simpa using hw
  have av0:0<W:=by omega
  have aaj:W- 1<134217728:=by omega
  simp only [bc,undef,seval,KN,KM,aif,aie,Kk,Km,Kl,j5,bne,seval,fc,aaj,av0,e0,e4,hb,pq];refine FI I.cur hm (by simp) rfl (fun γ a8 hc aI=> ?_) (fun γ a8 aI γ' aa gd hc c9=> ?_)
  ·have m5:γ.x.mu=8*W:=by omega
   obtain ⟨an,az,aB⟩:=a8.ok.dec (a8.ok.uU a8.iy hc.dj);have QA:W=γ.x.W:=by omega
   obtain ⟨r1,r2⟩:=cK.wake a8.ok hc.cap hc.md (by omega) (by omega) (by omega) (by omega);refine ⟨_,.rel,bd,r1,?_,rfl,cK.qe,r2,cK.oL,hc.di,fun γ' aa gd eC=> ?_⟩
   ·show ((0+2*1+4*0+8*(γ.x.W- 1):Nat):Int)=_;rw [<- QA];congr 1;show _=8*(W- 1)+2;omega
   ·simp only [bc,undef,seval,Kk,TX,afN,e0,L4];refine UT hm eC rfl fun ai eY=> ?_;simp only [bc,undef,seval];exact RR _ _ eY
  ·have x2:=c9 n (8*W) aQ;have b7:γ'.x.mu≠8*W:=by rw [aa];omega
   have bY:=x2.2 b7;simp only [bc,undef,seval,afM,Kk,TX,e0,pq];refine FH (b:=fE 174) hc hm hh aqe fun dk fR cN eD=> ?_;have xn:dk.x.cf dk.cap<n:=by
    have h1:=fR.rel.cf;have h2:=fR.rel.cap;rw [h2];exact Nat.lt_of_le_of_lt h1 bY
   obtain ⟨D4,c2,w1,w2,w3,w4,rT⟩:=Iz fR.ok (fR.ok.uU fR.iy cN.dj);have qJ:=fR.ok.fg;have IA:=fR.ok.k1;have hZ:=fR.ok.s1;by_cases aE:D4=0\/c2≠0
   ·obtain ⟨r1,r2⟩:=cK.quit fR.ok cN.cap cN.md (by omega);refine ⟨_,⟨r1,cK.qe,Nat.le_of_lt r2,fun e=>absurd rfl e,fun e=>(by have:=cN.cw.1 e;cases this),fun e=>by rw [cN.md] at e;cases e⟩,rfl,rfl,?_⟩;have eC:=hc.bB (evs:=#[]) fR (x':=dk.x.go i .out dk.x.L dk.x.K dk.x.S dk.x.W dk.x.M) cK.oL cN.di q4;exact kC _ _ _ _ _ xn ⟨rfl,rfl,D4,c2,.out,by simp [aZ,cM,e0],by simp [aZ,cM,w1],eC,w2,w3,.inl ⟨rfl,aE⟩⟩
   ·have av1:c2=0:=by omega
    have sL:D4≠0:=by omega
    refine ⟨dk.x,.refl fR.ok eD,rfl,rfl,?_⟩;have eC:=hc.bB (evs:=#[]) fR (x':=dk.x) cN.md cN.di q4;exact kC _ _ _ _ _ xn ⟨rfl,rfl,D4,c2,.jV,by simp [aZ,cM,e0],by simp [aZ,cM,w1],eC,w2,w3,.inr ⟨rfl,sL,av1,⟨Nat.le_refl _,fun h=>absurd (show dk.x.mu=8*D4 by omega) h⟩⟩⟩
theorem adn{W c:Nat}(hm:bm.mu=bG)(hh:h bG=none)(hW:W<100000000)(hc:c<8)(ID:c &&& 1=0)
  (hs:(∃m,c &&& 4=0/\dO i bm s m 1 bd false g/\((m=.out/\(W=0\/c≠0))\/(m=.jV/\W≠0/\c=0/\Old s (s.x.cf s.cap) (8*W))))\/(c &&& 4≠0/\dO i bm s .rel 1 bd false g)):
  bI Tryz.prog false (ep tM tW os0 Post i) 174 #[.pointer (some ⟨bG,0,none⟩),.int .i32 (8*W+c:Nat)] s h (X9 i bm bd g h):=by
 have YZ:∀c<8,c &&& 1=0->c=0\/c=2\/c=4\/c=6:=by decide
 have fc:W<134217728:=by omega
 refine cc (n:=43) (args:=[.pointer (some ⟨bG,0,none⟩),.int .i32 (8*W+c:Nat)]) Tryz.func174 afP rfl (by simp) ak4 ?_;rcases hs with ⟨m,h4,eC,aE⟩|⟨h4,eC⟩
 ·have x3:c=0\/c=2:=by rcases YZ c hc ID with rfl|rfl|rfl|rfl<;>first|(left;rfl)|(right;rfl)|exact absurd h4 (by decide)
  have key:∀e,e 0=.pointer (some ⟨bG,0,none⟩)->e 4=.int .i32 (8*W+c:Nat)->cF Tryz.prog false (ep tM tW os0 Post i) 43 (fE 174) Gk (fun x=>match x with|.ext _=>fun _ _ _ _=>False|_=>er Tryz.prog Tryz.f174 (X9 i bm bd g h) 43) e [] s h:=fun e h0 QF=>by
   simp only [aii,aih];refine eG (fun n e d s h'=>QE i bm bG bd g h n e d s h') (fun n e d s h' J=> ?_) (m:=s.x.cf s.cap) ⟨rfl,rfl,W,c,m,h0,QF,eC,hc,hW,aE⟩;refine aiy hm hh J (fun e ai q=> ?_) fun e d s h' m gB q=>⟨m,gB,q⟩;rw [Z4,Z6];exact nt rfl ⟨q,rfl⟩
  rcases x3 with rfl|rfl<;>simp only [bc,undef,seval,UN,UM,UL,aij,TZ,TY,j5,bne,seval,We,fc,dE,List.getD_cons_zero,List.getD_cons_succ]<;>exact key _ (by simp [aZ,cM,dE]) (by simp [aZ,cM])
 ·have x3:c=4\/c=6:=by rcases YZ c hc ID with rfl|rfl|rfl|rfl<;>first|(left;rfl)|(right;rfl)|exact absurd rfl h4
  rcases x3 with rfl|rfl<;>simp only [bc,undef,seval,UN,UM,UL,afO,TZ,TY,j5,bne,seval,We,fc,dE,List.getD_cons_zero,List.getD_cons_succ,L4]<;>(refine UT hm eC rfl fun ai eY=> ?_;exact nt rfl ⟨eY,rfl⟩)
end
end
section
open Go.ConcM (OsLater muBlock MuAt muA msA)
section
variable{tM tW:TypeId}{os0:eB}{Post:Value->World->Prop}{i:Nat}{bm s:ay}{h:ab}{bd bG bH:Nat}{g:List cT}
theorem adA{gd':ab}{mg':Nat->List cT}(hm:bm.mu=bG)(hh:h bG=none)(cur:dO i bm s .own 0 bd true g)
  (bU:s.I mg' gd') (qG:∀j,j≠i->mg' j=s.cL j) (hK:∀b x,gd' b=some x->h b=some x) (hgo:gd'.kR):
  bI Tryz.prog false (ep tM tW os0 Post i) 147 #[.pointer (some ⟨bG,0,none⟩)] s h (HE i bm bd (mg' i) (h.del gd')):=by
 refine cc (n:=21) (args:=[.pointer (some ⟨bG,0,none⟩)]) Tryz.func147 afL rfl (by simp) ak2 ?_;simp only [bc,undef,seval,aid,aic,aib,dE,List.getD_cons_zero,pq];have as5:s.cw=some i:=cur.cw.2 rfl;refine Np (b:=fE 147) cur hm hh aqf fun γ a8 hc=> ?_;have e1:(γ.bB i γ.x #[]).I=s.I:=a8.rel.I;have e2:(γ.bB i γ.x #[]).cL=s.cL:=a8.rel.C9 as5;have t2:(γ.bB i γ.x #[]).cw=some i:=hc.cw.2 rfl;generalize γ.bB i γ.x #[]=s1 at hc e1 e2 t2 ⊢;simp only [bc,undef,seval,aia,dE,List.getD_cons_zero];refine Nr (b:=fE 147) hc hm hh fun dk fR cN=> ?_;have e3:(dk.bB i dk.x #[]).I=s.I:=fR.rel.I.trans e1;have e4:(dk.bB i dk.x #[]).cL=s.cL:=(fR.rel.C9 t2).trans e2;generalize dk.bB i dk.x #[]=s2 at cN e3 e4 ⊢;refine aix (gd':=gd') (mg':=mg') hm cN rfl (by rw [e3];exact bU) (fun j ae=>by rw [e4];exact qG j ae) hK hgo fun fQ ed=> ?_;have av2:(h.del gd') bG=none:=by
  unfold ab.del;split<;>simp_all
 simp only [bc,undef,seval,afK];refine BV ed.w (.inl rfl) se fun IB IC=> ?_;have l1:=ed.bB (evs:=#[⟨.mark .disable,false,true⟩]) IC (x':=IB.x) (ed.rel IC).md (ed.rel IC).di US;generalize IB.bB i IB.x #[⟨.mark .disable,false,true⟩]=eW at l1 ⊢;simp only [bc,undef,seval,ah9,dE,List.getD_cons_zero,pq];obtain rfl:eW.mu=bG:=l1.c7.mu.trans hm;have fin:∀e ai,dO i bm ai .out 1 bd false (mg' i)->cF Tryz.prog false (ep tM tW os0 Post i) 21 (fE 147) M9 (fun x=>match x with|.ext _=>fun _ _ _ _=>False|_=>er Tryz.prog Tryz.f147 (HE i bm bd (mg' i) (h.del gd')) 21) e [] ai (h.del gd'):=fun e ai eC=>by
  simp only [bc,undef,seval,ah7];refine BV eC.w (.inr rfl) k6 fun γ a8=> ?_;exact nt rfl ⟨eC.bB (evs:=#[⟨.mark .enable,false,true⟩]) a8 (x':=γ.x) (eC.rel a8).md (eC.rel a8).di L9,rfl⟩
 have Po:∀(e:Env) ai W c,e 0=.pointer (some ⟨eW.mu,0,none⟩)->e 2=.int .i32 (8*W+c:Nat)->W<100000000->c<8->c &&& 1=0->
   ((∃m,c &&& 4=0/\dO i bm ai m 1 bd false (mg' i)/\((m=.out/\(W=0\/c≠0))\/(m=.jV/\W≠0/\c=0/\Old ai (ai.x.cf ai.cap) (8*W))))\/(c &&& 4≠0/\dO i bm ai .rel 1 bd false (mg' i)))->8*W+c≠0->
   cF Tryz.prog false (ep tM tW os0 Post i) 21 (fE 147) BX (fun x=>match x with|.ext _=>fun _ _ _ _=>False|_=>er Tryz.prog Tryz.f147 (HE i bm bd (mg' i) (h.del gd')) 21) e [] ai (h.del gd'):=fun e ai W c h0 h2 hW hc ID aE b7=>by
  have hb:((((8*W+c:Nat)):Int) != 0)=true:=by simp only [bne_iff_ne,ne_eq];omega
  simp only [bc,undef,seval,UK,UJ,UI,ah8,h0,h2,hb];refine .inl ⟨call174,(adn hm av2 hW hc ID aE).mono fun ai h' v q=> ?_⟩;obtain ⟨an,rfl⟩:=q;simp only [bc,undef,seval];exact fin _ _ an
 refine X6 l1.w Xe fun en nH aAK=> ?_;have gG:=l1.rel nH;obtain ⟨W,c,w1,w2,w3,w4,rT⟩:=Iz nH.ok (nH.ok.uU nH.iy gG.dj);have aAL:=nH.ok.lU;have pC:=nH.ok.uU nH.iy gG.dj;have qJ:=nH.ok.fg;have IA:=nH.ok.k1;have hZ:=nH.ok.s1;have OA:∀m:Nat,m<800000008->0<m->((m- 1:Nat):Int)=IntKind.i32.wrap ((m:Nat)+ -1):=fun m h1 h2=>by
  rw [show ((m:Nat):Int)+ -1=((m- 1:Nat):Int) by omega];exact (wrap32 (by omega)).symm
 rcases (show en.x.S=0\/en.x.S=1 by omega) with cZ|cZ
 ·by_cases aE:en.x.W=0\/en.x.K=1
  ·obtain ⟨r1,r2,r3⟩:=cK.ajY nH.ok gG.cap gG.md cZ aE;have gw:(en.x.go i .out 0 en.x.K en.x.S en.x.W en.x.M).mu=en.x.mu- 1:=by unfold cK.mu;simp only [cK.go];omega
   have eC:=l1.bB (evs:=#[⟨.cell (muA eW.mu),false,true⟩,⟨.cell (muA eW.mu),true,true⟩]) nH (x':=en.x.go i .out 0 en.x.K en.x.S en.x.W en.x.M) cK.oL gG.di BL;refine ⟨_,⟨r1,cK.qe,Nat.le_of_lt r2,fun _=>r2,fun e=>(by have:=gG.cw.1 e;cases this),fun e=>by rw [gG.md] at e;cases e⟩,rfl,by rw [gw];exact OA _ (by omega) (by omega),?_⟩;rw [gw];simp only [bc,undef,seval];by_cases aH:en.x.mu- 1=0
   ·have hb:(((en.x.mu- 1:Nat):Int) != 0)=false:=by rw [aH];rfl
    simp only [bc,undef,seval,UK,UJ,UI,hb];exact fin _ _ eC
   ·refine Po _ _ W (2*en.x.K) (by simp [aZ,cM,dE]) (by simp only [aZ,cM,Nat.reduceEqDiff,↓reduceIte];congr 2;omega) w3 (by omega) ?_ (.inl ⟨.out,?_,eC,.inl ⟨rfl,by omega⟩⟩) (by omega)
    ·rcases (show en.x.K=0\/en.x.K=1 by omega) with e|e<;>rw [e]<;>rfl
    ·rcases (show en.x.K=0\/en.x.K=1 by omega) with e|e<;>rw [e]<;>rfl
  ·have aA1:en.x.K=0:=by omega
   obtain ⟨r1,r2,r3⟩:=cK.ajZ nH.ok gG.cap gG.md cZ;have gw:(en.x.go i .jV 0 en.x.K en.x.S en.x.W en.x.M).mu=en.x.mu- 1:=by unfold cK.mu;simp only [cK.go];omega
   have eC:=l1.bB (evs:=#[⟨.cell (muA eW.mu),false,true⟩,⟨.cell (muA eW.mu),true,true⟩]) nH (x':=en.x.go i .jV 0 en.x.K en.x.S en.x.W en.x.M) cK.oL gG.di BL;refine ⟨_,⟨r1,cK.qe,Nat.le_of_lt r2,fun _=>r2,fun e=>(by have:=gG.cw.1 e;cases this),fun e=>by rw [gG.md] at e;cases e⟩,rfl,by rw [gw];exact OA _ (by omega) (by omega),?_⟩;rw [gw];simp only [bc,undef,seval];refine Po _ _ W 0 (by simp [aZ,cM,dE]) (by simp only [aZ,cM,Nat.reduceEqDiff,↓reduceIte];congr 2;omega) w3 (by omega) rfl (.inl ⟨.jV,rfl,eC,.inr ⟨rfl,by omega,rfl,Nat.le_refl _,fun h=>absurd (by show (en.x.go i .jV 0 en.x.K en.x.S en.x.W en.x.M).mu=_;rw [gw];omega) h⟩⟩) (by omega)
 ·obtain ⟨r1,r2,r3⟩:=cK.ajX nH.ok gG.cap gG.md cZ;have gw:(en.x.go i .rel 0 en.x.K en.x.S en.x.W en.x.M).mu=en.x.mu- 1:=by unfold cK.mu;simp only [cK.go];omega
  have eC:=l1.bB (evs:=#[⟨.cell (muA eW.mu),false,true⟩,⟨.cell (muA eW.mu),true,true⟩]) nH (x':=en.x.go i .rel 0 en.x.K en.x.S en.x.W en.x.M) cK.oL gG.di BL;refine ⟨_,⟨r1,cK.qe,Nat.le_of_lt r2,fun _=>r2,fun e=>(by have:=gG.cw.1 e;cases this),fun e=>by rw [gG.md] at e;cases e⟩,rfl,by rw [gw];exact OA _ (by omega) (by omega),?_⟩;rw [gw];simp only [bc,undef,seval];refine Po _ _ W (2*en.x.K+4) (by simp [aZ,cM,dE]) (by simp only [aZ,cM,Nat.reduceEqDiff,↓reduceIte];congr 2;omega) w3 (by omega) ?_ (.inr ⟨?_,eC⟩) (by omega)
  ·rcases (show en.x.K=0\/en.x.K=1 by omega) with e|e<;>rw [e]<;>rfl
  ·rcases (show en.x.K=0\/en.x.K=1 by omega) with e|e<;>rw [e]<;>decide
theorem aiz{gd':ab}{mg':Nat->List cT}(hm:bm.mu=bG)(hh:h bG=none)(cur:dO i bm s .own 0 bd true g)
  (bU:s.I mg' gd') (qG:∀j,j≠i->mg' j=s.cL j) (hK:∀b x,gd' b=some x->h b=some x) (hgo:gd'.kR):
  bI Tryz.prog false (ep tM tW os0 Post i) 102 #[.pointer (some ⟨bG,0,none⟩)] s h (HE i bm bd (mg' i) (h.del gd')):=by
 refine cc (n:=6) (args:=[.pointer (some ⟨bG,0,none⟩)]) Tryz.func102 afW rfl (by simp) alp ?_;simp only [bc,undef,seval,aiv,dE,List.getD_cons_zero,V4];refine .inl ⟨call147,(adA hm hh cur bU qG hK hgo).mono fun ai h' v q=> ?_⟩;exact nt rfl q
end
end
section
open Go.ConcM (OsLater muBlock)
open Go.ConcR (wgBlock)
def ay.gi(γ:ay)(i:Nat)(d:WD)(wv wr ws:Nat)(es:Array Event):ay:= {γ with wd:=Go.ConcN.upd γ.wd i d,wv:=wv,wr:=wr,ws:=ws,bH:=Go.ConcN.upd γ.bH i (deafBehind (γ.bH i) es)}
section
variable{P:Program}{tM tW:TypeId}{os0:eB}{Post:Value->World->Prop}{γ:ay}{n i:Nat}{hs:Nat->ab}{w w':World}{t:Trace}{es:Array Event}{d:WD}{wv wr ws:Nat}
theorem Gp(γ:ay)(f:WD->Nat)(hi:i<γ.aR)(ao:γ.n0<=i):(γ.gi i d wv wr ws es).dI f+f (γ.wd i)=γ.dI f+f d:=by
 have:=Go.ConcN.sumTo_upd (fun j=>if γ.n0<=j then f (γ.wd j) else 0) (f d) id hi;have e:(fun j=>if γ.n0<=j then f (Go.ConcN.upd γ.wd i d j) else 0)=fun j=>id (Go.ConcN.upd (fun j=>if γ.n0<=j then f (γ.wd j) else 0) i (f d) j):=by
  funext j;by_cases ae:j=i
  ·subst ae;simp [Go.ConcN.upd,ao]
  ·simp [Go.ConcN.upd,ae]
 show Go.ConcN.sumTo γ.aR (fun j=>if γ.n0<=j then f (Go.ConcN.upd γ.wd i d j) else 0)+_=_;rw [e];simpa [ao,ay.dI] using this
theorem dh.gi(G:dh tM tW os0 γ n hs w t)(h0:0<i)(hi:i<n)(hn:γ.on=true)(dF:γ.n0<=i)(lY:γ.wd i≠.wk)(x4:γ.wd i≠.eF)(hd:d≠.wk)(gx:hs i=ab.empty)(hw:(γ.gi i d wv wr ws es).oo)
  (eJ:w'.heap.size=w.heap.size) (hb:∀b,b≠γ.wg->w'.heap[b]? =w.heap[b]?) (rD:w'.heap[γ.wg]? =some (wgBlock tW (4294967296*wv+wr:Nat) ws)) (vN:ni w w')
  (lX:∀j e,es[j]? =some e->xX γ e/\((MemAct.ofEvent e).touch? =none\/0<deafBehind (γ.bH i) (es.extract 0 j))) (fn:FuncId) (pos:String):
  dh tM tW os0 (γ.gi i d wv wr ws es) n hs w' (t++MemOp.ofEvents i fn pos es)/\Deaf (t++MemOp.ofEvents i fn pos es) i=deafBehind (γ.bH i) es:=by
 obtain ⟨fx,fW,jj⟩:=G.gR hn;have aG:¬γ.gone i:=fun h=>x4 h.2;obtain ⟨cl,bV,dz⟩:=G.book hi aG eJ (fun b fv=>hb b fun e=>fv (by rw [e];exact fW)) (es:=es) (fun j e he=>⟨(lX j e he).1,(lX j e he).2.imp id fun h _ _=>h⟩) fn pos;have mT:=G.out i (.inr (.inr lY));have jT:∀j,j≠i->(γ.gi i d wv wr ws es).wd j=γ.wd j:=fun j ae=>Go.ConcN.upd_ne _ _ ae;have QG:(γ.gi i d wv wr ws es).wd i=d:=Go.ConcN.upd_same _ _ _;refine ⟨{
  aR:=G.aR
  pos:=G.pos
  n0:=G.n0
  hi:=cl
  ji:= ?_
  bH:=fun j ae kX=> ?_
  old:=fun j h1 h2=> ?_
  jz:=fun _=>by rw [show (γ.gi i d wv wr ws es).mu=γ.mu from rfl,hb _ jj];exact G.jz hn
  jd:=fun _=>rD
  gR:=G.gR
  ok:=G.ok
  cap:=G.cap
  out:=fun j ae=> ?_
  cw:=G.cw
  ll:=G.ll
  full:=fun j h1 h2 h3=> ?_
  hl:=hw
  eF:=fun j h1 h2=> ?_
  os:=G.os.trans vN
  jZ:=fun h=>by have:=G.j0 hn;rw [show (γ.gi i d wv wr ws es).ib=γ.ib from rfl,this] at h;cases h
  j0:=G.j0
  ku:=G.ku},?_⟩
 ·have e:(γ.gi i d wv wr ws es).eE hs=γ.eE hs:=by
   funext j;unfold ay.eE;rw [show (γ.gi i d wv wr ws es).n0=γ.n0 from rfl];by_cases ae:j=i
   ·subst ae;rw [QG];simp [gx,hd,lY]
   ·rw [jT j ae]
  rw [e];exact bV
 ·show _=Go.ConcN.upd γ.bH i (deafBehind (γ.bH i) es) j;by_cases e:j=i
  ·subst e;rw [dz j ae aG,if_pos rfl,Go.ConcN.upd_same]
  ·have Am:¬γ.gone j:=fun h=>kX ⟨h.1,by rw [jT j e];exact h.2⟩;rw [dz j ae Am,if_neg e,Go.ConcN.upd_ne _ _ e]
 ·have ae:j≠i:=by
   have:j<γ.n0:=h2;omega
  rw [jT j ae];exact G.old j h1 h2
 ·by_cases e:j=i
  ·subst e;exact mT
  ·rw [jT j e] at ae;exact G.out j ae
 ·by_cases e:j=i
  ·subst e;exact G.full j h1 h2 lY
  ·rw [jT j e] at h3;exact G.full j h1 h2 h3
 ·by_cases e:j=i
  ·subst e;exact gx
  ·rw [jT j e] at h2;exact G.eF j h1 h2
 ·rw [dz i hi aG,if_pos rfl]
theorem Wf(aI:wv<=γ.wv)(aH:γ.ms≠.reg->ws=γ.ws/\wr=γ.wr):(fC P tM tW os0 Post).ru i γ (γ.gi i d wv wr ws es):=by
 intro j ae;have e:(γ.gi i d wv wr ws es).wd j=γ.wd j:=Go.ConcN.upd_ne _ _ ae;exact ⟨.inr (.inr ⟨Nat.le_refl _,rfl,rfl,rfl,rfl,rfl,rfl,rfl,e,rfl,rfl,Go.ConcN.upd_ne _ _ ae,Iff.rfl,rfl,Nat.le_refl _,fun h=>absurd rfl h,fun _=>rfl,fun _=>⟨rfl,rfl,rfl,aI,aH⟩,rfl,rfl⟩),by show (j≠0/\_)↔(j≠0/\_);rw [e]⟩
theorem Xl{g:Goroutine}(hw:ws=γ.ws\/mayWake P g=true):(fC P tM tW os0 Post).rO g γ (γ.gi i d wv wr ws es):=by
 intro j h1 h2;rcases hw with hw|hw
 ·exfalso;apply h2;change (γ.gi i d wv wr ws es).waits j;have dy:γ.waits j:=h1;unfold ay.waits at dy ⊢;split
  ·rename_i ae;rw [if_pos ae] at dy;exact ⟨dy.1,by show ws=0;rw [hw];exact dy.2⟩
  ·rename_i ae;rw [if_neg ae] at dy;exact dy
 ·exact hw
theorem dh.av3(G:dh tM tW os0 γ n hs w t)(h0:0<i)(hi:i<n)(hn:γ.on=true)(dF:γ.n0<=i)(lY:γ.wd i=.wk)(m6:γ.x.md i=.out)(qG:γ.cL i=γ.full i)(m3:γ.bH i=0)(fn:FuncId)(pos:String):
  dh tM tW os0 (γ.gi i .jE γ.wv γ.wr γ.ws #[]) n (cC hs i ab.empty) w (t++MemOp.ofEvents i fn pos #[⟨.mark (.releaseMerge ⟨γ.wg,0,none⟩),false,true⟩]):=by
 have aG:¬γ.gone i:=fun h=>by have:=h.2;rw [lY] at this;cases this
 obtain ⟨fx,fW,jj⟩:=G.gR hn;have aF:MemOp.ofEvents i fn pos #[⟨.mark (.releaseMerge ⟨γ.wg,0,none⟩),false,true⟩]=#[{g:=i,fn,pos,act:=.mark (.releaseMerge ⟨γ.wg,0,none⟩)}]:=by
  rw [ofEvents_eq];simp [MemAct.ofEvent]
 have jT:∀j,j≠i->(γ.gi i .jE γ.wv γ.wr γ.ws #[]).wd j=γ.wd j:=fun j ae=>Go.ConcN.upd_ne _ _ ae;have QG:(γ.gi i .jE γ.wv γ.wr γ.ws #[]).wd i=.jE:=Go.ConcN.upd_same _ _ _;have du:Deaf t i=0:=(G.bH i hi aG).trans m3;rw [aF];have H1:fy hs n γ.gP (· ∈γ.sh) ⟨γ.mu,0,none⟩ γ.bW w (t++#[{g:=i,fn,pos,act:=.mark (.releaseMerge ⟨γ.wg,0,none⟩)}]):=by
  refine G.hi.shared hi rfl (fun _ _=>rfl) fun op aF=> ?_;simp at aF;subst aF;exact ⟨⟨rfl,by simp,fun x aa=>by simp [MemAct.touch?] at aa⟩,G.hi.low _ fW⟩
 have H2:=H1.weaken (i:=i) (h':=ab.empty) hi (fun b x aa=>by simp [ab.empty] at aa) (fun b x aa=>by simp [ab.empty] at aa);have dI:∀f:WD->Nat,f .jE=f .wk->(γ.gi i .jE γ.wv γ.wr γ.ws #[]).dI f=γ.dI f:=fun f aP=>by
  have:=Gp (d:=.jE) (wv:=γ.wv) (wr:=γ.wr) (ws:=γ.ws) (es:=#[]) γ f (by rw [G.aR];exact hi) dF;rw [lY,aP] at this;omega
 have Y0:∀j,j≠i->cC hs i ab.empty j=hs j:=fun j ae=>gr _ _ ae;refine {
  aR:=G.aR
  pos:=G.pos
  n0:=G.n0
  hi:=H2
  ji:= ?_
  bH:=fun j ae kX=> ?_
  old:=fun j h1 h2=> ?_
  jz:=fun _=>G.jz hn
  jd:=fun _=>G.jd hn
  gR:=G.gR
  ok:=G.ok
  cap:=G.cap
  out:=fun j ae=> ?_
  cw:=G.cw
  ll:=G.ll
  full:=fun j h1 h2 h3=> ?_
  hl:= ?_
  eF:=fun j h1 h2=> ?_
  os:=G.os
  jZ:=G.jZ
  j0:=G.j0
  ku:=G.ku}
 ·have J:=G.ji.app (g:=i) (u:=#[{g:=i,fn,pos,act:=.mark (.releaseMerge ⟨γ.wg,0,none⟩)}]) (fun op aF=>by simp at aF;subst aF;rfl) (fun op aF=>by simp at aF;subst aF;simp) (fun _ hw=>by
   exfalso;apply hw;unfold ay.eE;rw [if_neg (by omega),if_pos (.inl lY)])
  have eE:∀j,j≠i->(γ.gi i .jE γ.wv γ.wr γ.ws #[]).eE (cC hs i ab.empty) j=γ.eE hs j:=fun j ae=>by
   unfold ay.eE;rw [show (γ.gi i .jE γ.wv γ.wr γ.ws #[]).n0=γ.n0 from rfl,jT j ae,Y0 j ae]
  refine ⟨J.norel,fun j h1 h2 e=> ?_,fun j h1 h2 e=> ?_⟩
  ·by_cases ae:j=i
   ·subst ae;have aE:(t++#[({g:=j,fn,pos,act:=.mark (.releaseMerge ⟨γ.wg,0,none⟩)}:MemOp)])[t.size]? =some {g:=j,fn,pos,act:=.mark (.releaseMerge ⟨γ.wg,0,none⟩)}:=by simp
    refine ⟨t.size,by rw [act?_of aE];rfl,by simp [Trace.g?],⟨j,by simp [Trace.g?],by rw [deaf_old (Nat.le_refl _)];exact du⟩,fun k hk H4=> ?_⟩;obtain ⟨op,aQ,_⟩:=Option.map_eq_some_iff.1 H4;have:=(Array.getElem?_eq_some_iff.1 aQ).1;simp at this;omega
   ·rw [eE j ae] at e;exact J.s5 j h1 h2 e
  ·by_cases ae:j=i
   ·subst ae;exfalso;have:(γ.gi j .jE γ.wv γ.wr γ.ws #[]).eE (cC hs j ab.empty) j=.s5:=by
     unfold ay.eE;rw [if_neg (show ¬j<(γ.gi j .jE γ.wv γ.wr γ.ws #[]).n0 from Nat.not_lt.2 dF),QG,kD];simp
    have e':(γ.gi j .jE γ.wv γ.wr γ.ws #[]).eE (cC hs j ab.empty) j=.jn:=e;rw [this] at e';cases e'
   ·rw [eE j ae] at e;exact J.jn j h1 h2 e
 ·show _=Go.ConcN.upd γ.bH i (deafBehind (γ.bH i) #[]) j;by_cases e:j=i
  ·subst e;rw [Go.ConcN.upd_same];have:=Deaf_own t j fn pos #[⟨.mark (.releaseMerge ⟨γ.wg,0,none⟩),false,true⟩];rw [aF] at this;rw [this,du,m3];rfl
  ·have Am:¬γ.gone j:=fun h=>kX ⟨h.1,by rw [jT j e];exact h.2⟩;rw [Go.ConcN.upd_ne _ _ e,Deaf_other t (g':=i) (fun h=>e h.symm) _ (fun op aF=>by simp at aF;subst aF;rfl)];exact G.bH j ae Am
 ·have ae:j≠i:=by
   have:j<γ.n0:=h2;omega
  rw [jT j ae];exact G.old j h1 h2
 ·by_cases e:j=i
  ·subst e;exact m6
  ·rw [jT j e] at ae;exact G.out j ae
 ·by_cases e:j=i
  ·subst e;exact qG
  ·rw [jT j e] at h3;exact G.full j h1 h2 h3
 ·have v:=G.hl.v;have st:=G.hl.st;exact ⟨by rw [dI _ rfl];exact v,by rw [dI _ rfl,dI _ rfl];exact st⟩
 ·by_cases e:j=i
  ·subst e;rw [kD]
  ·rw [jT j e] at h2;rw [Y0 j e];exact G.eF j h1 h2
end
end
section
open Go.ConcM (OsLater muBlock)
open Go.ConcR (wgBlock WgAt stA smA)
def ay.gp(γ:ay)(ms:jF)(wv wr ws:Nat)(es:Array Event):ay:= {γ with ms:=ms,wv:=wv,wr:=wr,ws:=ws,bH:=Go.ConcN.upd γ.bH 0 (deafBehind (γ.bH 0) es)}
section
variable{P:Program}{tM tW:TypeId}{os0:eB}{Post:Value->World->Prop}{γ:ay}{n:Nat}{hs:Nat->ab}{w w':World}{t:Trace}{es:Array Event}{ms:jF}{wv wr ws:Nat}
theorem zs{b:bn}{o:Oper}{aS:Operand->Value}{s:ay}{h:ab}{K:ay->ab->Value->Prop}
  (hs:∀(a:Act) (ops:Array Oper) (j:Nat) (rest:List Nat) (k:List Item) (cs:List Frame),b.kind≠.early->a.eval=aS->ops[j]? =some o->Region.wanted o (yielded ops a.tmps)=true->
   ∀(γ:ay) (n:Nat) (hs:Nat->ab) (w:World) (t:Trace),ay.Rel 0 s γ->dh tM tW os0 γ n hs w t->hs 0=h->
   (γ.waits 0/\stepG P true (G (b.at a (.inRegion ops (j::rest)::k)) cs) w=.go {G (b.at a (.inRegion ops (j::rest)::k)) cs with status:=.blocked} w #[])\/
   (∃γ' v w' es h',stepG P true (G (b.at a (.inRegion ops (j::rest)::k)) cs) w=.go (G (b.at (a.put o.dst v) (.inRegion ops rest::k)) cs) w' es/\
    dh tM tW os0 γ' n (cC hs 0 h') w' (t++opsOf 0 (G (b.at a (.inRegion ops (j::rest)::k)) cs) es)/\(fC P tM tW os0 Post).ru 0 γ γ'/\
    (fC P tM tW os0 Post).rO (G (b.at a (.inRegion ops (j::rest)::k)) cs) γ γ'/\K γ' h' v)):
  lJ P true ((fC P tM tW os0 Post).jC) b o aS s h K:=by
 intro Q a ops j rest k cs hk aA aQ hw c;refine dp.sync ⟨rfl,rfl,fun γ n dX w t al cQ he=> ?_⟩;rcases hs a ops j rest k cs hk aA aQ hw γ n dX w t al cQ he with h1|⟨γ',v,w',es,h',e1,e2,e3,e4,e6⟩
 ·exact .inl h1
 ·exact .inr (.inl ⟨γ',_,w',es,h',e1,e2,e3,e4,rfl,c γ' h' v e6⟩)
def acj(γ:ay)(e:Event):Prop:=∃a,a.block=γ.wg/\(e=⟨.mark (.read a),false,true⟩\/e=⟨.mark (.write a),false,true⟩)
theorem dh.gp(G:dh tM tW os0 γ n hs w t)(hn:γ.on=true)(hw:(γ.gp ms wv wr ws es).oo)
  (eJ:w'.heap.size=w.heap.size) (hb:∀b,b≠γ.wg->w'.heap[b]? =w.heap[b]?) (rD:w'.heap[γ.wg]? =some (wgBlock tW (4294967296*wv+wr:Nat) ws)) (vN:ni w w')
  (lX:∀e∈es,xX γ e\/acj γ e) (fn:FuncId) (pos:String):
  dh tM tW os0 (γ.gp ms wv wr ws es) n hs w' (t++MemOp.ofEvents 0 fn pos es):=by
 obtain ⟨fx,fW,jj⟩:=G.gR hn;have aG:¬γ.gone 0:=fun h=>h.1 rfl;have mem:∀op∈MemOp.ofEvents 0 fn pos es,∃e,(xX γ e\/acj γ e)/\op= {g:=0,fn,pos,act:=.ofEvent e}:=fun op aF=>by
  rw [ofEvents_eq] at aF;obtain ⟨e,he,rfl⟩:=Array.mem_map.1 aF;exact ⟨e,lX e he,rfl⟩
 have norel:∀op∈MemOp.ofEvents 0 fn pos es,∀a,op.act≠.mark (.release a):=fun op aF a h=>by
  obtain ⟨e,he,rfl⟩:=mem op aF;have af:=Go.ConcR.loc_of_ofEvent h;rcases he with (h1|h1|⟨o9,x,rfl,_⟩)|⟨o9,_,rfl|rfl⟩
  ·rw [h1] at af;cases af
  ·rw [h1] at af;cases af
  ·cases af
  ·cases af
  ·cases af
 exact {
  aR:=G.aR
  pos:=G.pos
  n0:=G.n0
  hi:=by
   refine G.hi.shared G.pos eJ (fun b fv=>hb b fun e=>fv (by rw [e];exact fW)) fun op aF=> ?_;have al:=norel op aF ⟨γ.mu,0,none⟩;obtain ⟨e,he,rfl⟩:=mem op aF;rcases he with (h1|h1|⟨o9,x,rfl,aA⟩)|⟨o9,aA,rfl|rfl⟩
   ·obtain ⟨loc,wr,nO⟩:=e;simp only at h1;subst h1;exact ⟨⟨rfl,al,fun y ax=>by simp [MemAct.ofEvent,MemAct.touch?] at ax⟩,trivial⟩
   ·obtain ⟨loc,wr,nO⟩:=e;simp only at h1;subst h1;exact ⟨⟨rfl,al,fun y ax=>by simp [MemAct.ofEvent,MemAct.touch?] at ax⟩,trivial⟩
   ·refine ⟨⟨rfl,al,fun y ax=> ?_⟩,G.hi.low _ aA⟩;simp only [MemAct.ofEvent,MemAct.touch?,Option.some.injEq] at ax;subst ax;exact ⟨o9.block,rfl,.inl ⟨aA,by simp,by simp⟩⟩
   ·have af:=G.hi.low _ fW;refine ⟨⟨rfl,al,fun y ax=> ?_⟩,by rw [<- aA] at af;exact af⟩;simp only [MemAct.ofEvent,MemAct.touch?,Option.some.injEq] at ax;subst ax;exact ⟨o9.block,rfl,.inl ⟨by rw [aA];exact fW,by simp,fun _=>rfl⟩⟩
   ·have af:=G.hi.low _ fW;refine ⟨⟨rfl,al,fun y ax=> ?_⟩,by rw [<- aA] at af;exact af⟩;simp only [MemAct.ofEvent,MemAct.touch?,Option.some.injEq] at ax;subst ax;exact ⟨o9.block,rfl,.inl ⟨by rw [aA];exact fW,by simp,fun _=>rfl⟩⟩
  ji:=G.ji.app (g:=0) (fun op aF=>tx aF) (fun op aF=>norel op aF _) fun h0=>by omega
  bH:=fun j ae kX=>by
   show _=Go.ConcN.upd γ.bH 0 (deafBehind (γ.bH 0) es) j;by_cases e:j=0
   ·subst e;rw [Deaf_own,G.bH 0 ae aG,Go.ConcN.upd_same]
   ·rw [Go.ConcN.upd_ne _ _ e,Deaf_other t (g':=0) (fun h=>e h.symm) _ (fun op aF=>tx aF)];exact G.bH j ae kX
  old:=G.old
  jz:=fun _=>by rw [show (γ.gp ms wv wr ws es).mu=γ.mu from rfl,hb _ jj];exact G.jz hn
  jd:=fun _=>rD
  gR:=G.gR
  ok:=G.ok
  cap:=G.cap
  out:=G.out
  cw:=G.cw
  ll:=G.ll
  full:=G.full
  hl:=hw
  eF:=G.eF
  os:=G.os.trans vN
  jZ:=fun h=>by have:=G.j0 hn;rw [show (γ.gp ms wv wr ws es).ib=γ.ib from rfl,this] at h;cases h
  j0:=G.j0
  ku:=G.ku}
theorem Wg:(fC P tM tW os0 Post).ru 0 γ (γ.gp ms wv wr ws es):=fun j ae=>
 ⟨.inr (.inr ⟨Nat.le_refl _,rfl,rfl,rfl,rfl,rfl,rfl,rfl,rfl,rfl,rfl,Go.ConcN.upd_ne _ _ ae,Iff.rfl,rfl,Nat.le_refl _,fun h=>absurd rfl h,fun _=>rfl,fun h=>absurd h ae,rfl,rfl⟩),Iff.rfl⟩
theorem Xm{g:Goroutine}(h0:¬γ.waits 0\/(γ.gp ms wv wr ws es).waits 0):(fC P tM tW os0 Post).rO g γ (γ.gp ms wv wr ws es):=by
 intro j h1 h2;exfalso;by_cases ae:j=0
 ·subst ae;exact h0.elim (fun h=>h h1) h2
 ·apply h2;change (γ.gp ms wv wr ws es).waits j;have dy:γ.waits j:=h1;unfold ay.waits at dy ⊢;rw [if_neg ae] at dy ⊢;exact dy
structure gJ(s:ay)(wg mu:Nat)(ms:jF)(k:Nat):Prop where
 on:s.on=true
 aR:0<s.aR
 ms:s.ms=ms
 bH:s.bH 0=k
 wg:s.wg=wg
 mu:s.mu=mu
theorem gJ.rel{s γ:ay}{wg mu k:Nat}(M:gJ s wg mu ms k)(r:ay.lS 0 s γ):gJ γ wg mu ms k:=
 ⟨r.on.trans M.on,Nat.lt_of_lt_of_le M.aR r.aR,(r.z rfl).1.trans M.ms,r.bH.trans M.bH,r.wg.trans M.wg,r.mu.trans M.mu⟩
theorem gJ.gp{s:ay}{wg mu k k':Nat}{ms':jF}(M:gJ s wg mu ms k)(hk:deafBehind k es=k'):gJ (s.gp ms' wv wr ws es) wg mu ms' k':=
 ⟨M.on,M.aR,rfl,by show Go.ConcN.upd s.bH 0 (deafBehind (s.bH 0) es) 0=_;rw [Go.ConcN.upd_same,M.bH,hk],M.wg,M.mu⟩
theorem so{s γ:ay}(al:ay.Rel 0 s γ)(h:0<s.aR):ay.lS 0 s γ:=al.s h fun aG=>aG.1 rfl
theorem wY{s:ay}{h:ab}{K:ay->ab->Value->Prop}{f:FuncId}{fn:Func}{x:Array Value->Sem Value}{args:Array Value}{wg mu k:Nat}(X:gy P f fn x)(M:gJ s wg mu ms k)
  (hs:∀(γ:ay) (w:World),ay.lS 0 s γ->gJ γ wg mu ms k->γ.oo->WgAt tW wg w ((4294967296*γ.wv+γ.wr:Nat):Int) ((γ.ws:Nat):Int)->
   (γ.waits 0/\(x args).run P w=.halt .blocked w)\/
   ∃v w' evs ms' m7 m8 kW,(x args).run P w=.ok v w'/\(x args).events P w #[⟨.mark (.extern f),false,true⟩]=#[⟨.mark (.extern f),false,true⟩]++evs/\(∀y∈evs,y.sync=true/\∀g,y.loc≠.mark (.extern g))/\
   (w'.heap.size=w.heap.size/\(∀b,b≠wg->w'.heap[b]? =w.heap[b]?)/\WgAt tW wg w' ((4294967296*m7+m8:Nat):Int) ((kW:Nat):Int)/\(w'.os=w.os/\w'.output=w.output))/\
   (∀e∈evs,(e.loc=.mark .disable\/e.loc=.mark .enable\/∃o y,e=⟨.cell ⟨wg,o,none⟩,y,true⟩)\/∃a,a.block=wg/\(e=⟨.mark (.read a),false,true⟩\/e=⟨.mark (.write a),false,true⟩))/\
   (γ.gp ms' m7 m8 kW evs).oo/\(¬γ.waits 0\/(γ.gp ms' m7 m8 kW evs).waits 0)/\(gJ (γ.gp ms' m7 m8 kW evs) wg mu ms' (deafBehind k evs)->K (γ.gp ms' m7 m8 kW evs) h v)):
  eX P true ((fC P tM tW os0 Post).jC) f args s h (K:=⟨K⟩):=by
 refine .inr (.inr fun b o aS b8 hU aF jw=>zs fun a ops j rest kk cs hk aA aQ hw γ n dX w t al cQ gx=> ?_);subst aA;have R:=so al M.aR;have M2:=M.rel R;have hW:=cQ.jd M2.on;rw [M2.wg] at hW;have fW:=(cQ.gR M2.on).2.1;rcases hs γ w R M2 cQ.hl hW with ⟨an,az⟩|⟨v,w',evs,ms',m7,m8,kW,c1,c2,c3,⟨c4,c5,c6,dC⟩,eN,ox,c10,sO⟩
 ·exact .inl ⟨an,Ss (rest:=rest) aQ hw aF X.f X.name X.body X.next X.find (by rw [jw];exact az)⟩
 ·have cj:=tr (rest:=rest) (main:=true) (b:=b) (a:=a) (k:=kk) (cs:=cs) (w:=w) aQ hw hk aF X.f X.name X.body X.next X.find (by rw [jw];exact c1) (by rw [jw];exact c2) c3;refine .inr ⟨γ.gp ms' m7 m8 kW evs,v,w',evs,h,cj,?_,Wg,Xm c10,sO (M2.gp rfl)⟩;rw [<- gx,p9];refine cQ.gp M2.on ox c4 (fun b hb=>c5 b (by rw [<- M2.wg];exact hb)) (by rw [M2.wg];exact c6) (ni.of dC.1 dC.2) (fun e he=> ?_) _ _;rcases eN e he with (q|q|⟨aO,y,rfl⟩)|⟨fh,an,az⟩
  ·exact .inl (.inl q)
  ·exact .inl (.inr (.inl q))
  ·exact .inl (.inr (.inr ⟨_,y,rfl,by rw [M2.wg] at fW;exact fW⟩))
  ·exact .inr ⟨fh,by rw [M2.wg];exact an,az⟩
end
end
section
open Go.ConcM (OsLater muBlock)
open Go.ConcR (wgBlock WgAt stA smA)
def zY(aY:Frame):Option Oper:=
 match aY.mode with
 | .run=>match aY.todo with
  | .inRegion ops (i::_)::_=>match ops[i]? with
   | some o=>match Region.wanted o (yielded ops aY.tmps) with
    | true=>some o
    | false=>none
   | none=>none
  | _=>none
 | _=>none
theorem UU{aY:Frame}{o:Oper}(h:zY aY=some o):∃ops i rest k,aY=(⟨aY.fn,aY.kind,aY.roundOf⟩:bn).at ⟨aY.tmps,aY.defers⟩ (.inRegion ops (i::rest)::k)/\ops[i]? =some o/\Region.wanted o (yielded ops aY.tmps)=true/\
  ∀v,aY.finish v=(⟨aY.fn,aY.kind,aY.roundOf⟩:bn).at ((⟨aY.tmps,aY.defers⟩:Act).put o.dst v) (.inRegion ops rest::k):=by
 unfold zY at h;split at h
 ·rename_i hm;split at h
  ·rename_i ops i rest k aj;split at h
   ·rename_i aO aQ;split at h
    ·rename_i hw;cases h;have e:aY=(⟨aY.fn,aY.kind,aY.roundOf⟩:bn).at ⟨aY.tmps,aY.defers⟩ (.inRegion ops (i::rest)::k):=by rw [<- aj];exact aiq hm
     refine ⟨ops,i,rest,k,e,aQ,hw,fun v=> ?_⟩;have:=bn.finish_at ⟨aY.fn,aY.kind,aY.roundOf⟩ ⟨aY.tmps,aY.defers⟩ ops i rest k v;rw [aQ,<- e] at this;exact this
    ·cases h
   ·cases h
  ·cases h
 ·cases h
def jQ(aY:Frame):Option (FuncId×List Value):=
 match zY aY with
 | some o=>match o.op with
  | .call ⟨.value (.func f),b8,_⟩=>some (f,b8.toList.map aY.eval)
  | _=>none
 | none=>none
def iV(aY:Frame):Bool:=match aY.kind with|.early=>false|_=>true
section
variable{P:Program}{main:Bool}{tM tW:TypeId}{os0:eB}{Post:Value->World->Prop}{i:Nat}{s:ay}{h:ab}{f:FuncId}{fn:Func}{x:Array Value->Sem Value}{args:List Value}{aY:Frame}{cs:List Frame}{Q:ay->ab->Goroutine->Prop}
theorem aea(h:jQ aY=some (f,args)):∃o b8 hU,zY aY=some o/\o.op=.call {callee:=.value (.func f),args:=b8,argTypes:=hU}/\b8.map aY.eval=args.toArray:=by
 unfold jQ at h;split at h
 ·rename_i o aQ;split at h
  ·rename_i pR b8 hU aF;cases h;exact ⟨o,b8,hU,aQ,aF,by apply Array.toList_inj.1;simp⟩
  ·cases h
 ·cases h
theorem Te(X:gy P f fn x)(aj:jQ aY=some (f,args))(hk:iV aY=true){w w':World}{v:Value}{evs:Array Event}(c1:(x args.toArray).run P w=.ok v w')(c2:(x args.toArray).events P w #[⟨.mark (.extern f),false,true⟩]=#[⟨.mark (.extern f),false,true⟩]++evs)
  (c3:∀y∈evs,y.sync=true/\∀g,y.loc≠.mark (.extern g)):stepG P main (Conc.G aY cs) w=.go (Conc.G (aY.finish v) cs) w' evs/\mayWake P (Conc.G aY cs)=true:=by
 obtain ⟨o,b8,hU,aQ,aF,aA⟩:=aea aj;obtain ⟨ops,j,rest,k,e,h1,h2,h3⟩:=UU aQ;have iO:b8.map (⟨aY.tmps,aY.defers⟩:Act).eval=args.toArray:=by
  rw [<- aA];have:aY.eval=(⟨aY.tmps,aY.defers⟩:Act).eval:=by rw [e];exact bn.GK _
  rw [this]
 have QH:aY.kind≠.early:=by intro h;unfold iV at hk;rw [h] at hk;cases hk
 have cj:=tr (P:=P) (main:=main) (b:=⟨aY.fn,aY.kind,aY.roundOf⟩) (a:=⟨aY.tmps,aY.defers⟩) (ops:=ops) (i:=j) (rest:=rest) (k:=k) (cs:=cs) (w:=w) (w':=w') h1 h2 QH aF X.f X.name X.body X.next X.find (v:=v) (evs:=evs) (by rw [iO];exact c1) (by rw [iO];exact c2) c3;rw [<- e,<- h3] at cj;refine ⟨cj,?_⟩;have:=UD (P:=P) (b:=⟨aY.fn,aY.kind,aY.roundOf⟩) (a:=⟨aY.tmps,aY.defers⟩) (rest:=rest) (k:=k) (cs:=cs) h1 aF X.f X.body;rw [<- e] at this;exact this
theorem Wh(X:gy P f fn x)(aj:jQ aY=some (f,args))(hk:iV aY=true)
  (hs:∀(γ:ay) (n:Nat) (hs:Nat->ab) (w:World) (t:Trace),ay.Rel i s γ->dh tM tW os0 γ n hs w t->i<n->¬γ.gone i->hs i=h->∃v w' evs γ' h',(x args.toArray).run P w=.ok v w'/\(x args.toArray).events P w #[⟨.mark (.extern f),false,true⟩]=#[⟨.mark (.extern f),false,true⟩]++evs/\(∀y∈evs,y.sync=true/\∀g,y.loc≠.mark (.extern g))/\
   dh tM tW os0 γ' n (cC hs i h') w' (t++opsOf i (Conc.G aY cs) evs)/\(fC P tM tW os0 Post).ru i γ γ'/\(mayWake P (Conc.G aY cs)=true->(fC P tM tW os0 Post).rO (Conc.G aY cs) γ γ')/\
   ((γ'.gone i/\∃q,QuitsD P q (Deaf (t++opsOf i (Conc.G aY cs) evs) i) (Conc.G (aY.finish v) cs))\/(¬γ'.gone i/\dp P false ((fC P tM tW os0 Post).hM i) Q γ' h' (Conc.G (aY.finish v) cs)))):
  dp P false ((fC P tM tW os0 Post).hM i) Q s h (Conc.G aY cs):=by
 refine dp.sync ⟨rfl,rfl,fun γ n dX w t al cQ hi aG he=>.inr ?_⟩;obtain ⟨v,w',evs,γ',h',c1,c2,c3,c4,c5,c6,dC⟩:=hs γ n dX w t al cQ hi aG he;obtain ⟨e1,e2⟩:=Te (main:=false) (cs:=cs) X aj hk c1 c2 c3;exact ⟨γ',_,w',evs,h',e1,c4,c5,c6 e2,dC.imp id fun ⟨a,b⟩=>⟨a,rfl,b⟩⟩
end
end
section
open Go.ConcM (OsLater muBlock)
open Go.ConcR (wgBlock WgAt stA smA)
noncomputable def IE(wg:Nat):Frame:=(⟨98,.deferred,none⟩:bn).at ⟨#[.pointer (some ⟨wg,0,none⟩),undef,undef,undef],[]⟩ [.code (Tryz.f98.body.getD .skip)]
def IF(tmps:Array Value)(todo:List Item):Frame:= {(⟨97,.deferred,none⟩:bn).at ⟨tmps,[]⟩ todo with mode:=.returning}
noncomputable def uz:Frame:= {(default:Frame) with fn:=Tryz.prog.funcs.size,defers:=[],mode:=.panicking [goexitEntry]}
def FJ(aY:Frame):Option (TypeId×TypeId×Value):=
 match zY aY with
 | some o=>match o.op with
  | .convert s d x=>some (s,d,aY.eval x)
  | _=>none
 | none=>none
noncomputable def ar(st:Frame×List Frame)(v:Value):Frame×List Frame:=xm Tryz.prog 200 (st.1.finish v) st.2
noncomputable def d0(wg:Nat)(tmps:Array Value)(todo:List Item):Frame×List Frame:=xm Tryz.prog 200 (IE wg) [IF tmps todo,uz]
def d1(wg:Nat)(tmps:Array Value)(todo:List Item):=ar (d0 wg tmps todo) (.pointer (some ⟨wg,0,none⟩))
def d2(wg:Nat)(tmps:Array Value)(todo:List Item):=ar (d1 wg tmps todo) (.tuple #[])
def d3(wg:Nat)(tmps:Array Value)(todo:List Item):=ar (d2 wg tmps todo) (.tuple #[])
def d4(wg:Nat)(tmps:Array Value)(todo:List Item):=ar (d3 wg tmps todo) (.bool false)
def d5(wg:Nat)(tmps:Array Value)(todo:List Item):=ar (d4 wg tmps todo) (.int .u64 1)
def d6(wg:Nat)(tmps:Array Value)(todo:List Item):=ar (d5 wg tmps todo) (.int .u64 1)
def d7(wg:Nat)(tmps:Array Value)(todo:List Item):=ar (d6 wg tmps todo) (.tuple #[])
section
variable(wg:Nat)(tmps:Array Value)(todo:List Item)
theorem Xn:FJ (d0 wg tmps todo).1=some (252,170,.pointer (some ⟨wg,0,none⟩))/\iV (d0 wg tmps todo).1=true/\(d0 wg tmps todo).1.roundOf=none:=⟨by kernel_rfl,by kernel_rfl,by kernel_rfl⟩
theorem anZ:jQ (d1 wg tmps todo).1=some (127,[.pointer (some ⟨wg,0,none⟩)])/\iV (d1 wg tmps todo).1=true:=⟨by kernel_rfl,by kernel_rfl⟩
theorem an0:jQ (d2 wg tmps todo).1=some (128,[])/\iV (d2 wg tmps todo).1=true:=⟨by kernel_rfl,by kernel_rfl⟩
theorem an1:jQ (d3 wg tmps todo).1=some (130,[])/\iV (d3 wg tmps todo).1=true:=⟨by kernel_rfl,by kernel_rfl⟩
theorem an2:jQ (d4 wg tmps todo).1=some (168,[.pointer (some ⟨wg,0,none⟩),.int .u64 18446744069414584320])/\iV (d4 wg tmps todo).1=true:=⟨by kernel_rfl,by kernel_rfl⟩
theorem an3:jQ (d5 wg tmps todo).1=some (169,[.pointer (some ⟨wg,0,none⟩)])/\iV (d5 wg tmps todo).1=true:=⟨by kernel_rfl,by kernel_rfl⟩
theorem an4:jQ (d6 wg tmps todo).1=some (170,[.pointer (some ⟨wg,0,none⟩),.int .u64 0])/\iV (d6 wg tmps todo).1=true:=⟨by kernel_rfl,by kernel_rfl⟩
theorem an5:jQ (d7 wg tmps todo).1=some (139,[.pointer (some ⟨wg,1,none⟩),.bool false,.int .i64 0])/\iV (d7 wg tmps todo).1=true:=⟨by kernel_rfl,by kernel_rfl⟩
noncomputable abbrev mF(v:Int):Bool:=quits Tryz.prog 129 400 1 ((d4 wg tmps todo).1.finish (.int .u64 v)) (d4 wg tmps todo).2
theorem av4:mF wg tmps todo 0=true:=by kernel_rfl
theorem av5:mF wg tmps todo 4294967296=true:=by kernel_rfl
theorem av6:mF wg tmps todo 8589934592=true:=by kernel_rfl
theorem av7:mF wg tmps todo 12884901888=true:=by kernel_rfl
theorem av8:mF wg tmps todo 17179869184=true:=by kernel_rfl
theorem av9:mF wg tmps todo 21474836480=true:=by kernel_rfl
theorem awa:mF wg tmps todo 25769803776=true:=by kernel_rfl
theorem awb:mF wg tmps todo 30064771072=true:=by kernel_rfl
theorem awc:mF wg tmps todo 34359738368=true:=by kernel_rfl
theorem awd:mF wg tmps todo 4294967297=true:=by kernel_rfl
theorem awe:mF wg tmps todo 8589934593=true:=by kernel_rfl
theorem awf:mF wg tmps todo 12884901889=true:=by kernel_rfl
theorem awg:mF wg tmps todo 17179869185=true:=by kernel_rfl
theorem awh:mF wg tmps todo 21474836481=true:=by kernel_rfl
theorem awi:mF wg tmps todo 25769803777=true:=by kernel_rfl
theorem awj:mF wg tmps todo 30064771073=true:=by kernel_rfl
theorem awk:mF wg tmps todo 34359738369=true:=by kernel_rfl
theorem as6:quits Tryz.prog 129 400 1 ((d7 wg tmps todo).1.finish (.tuple #[])) (d7 wg tmps todo).2=true:=by kernel_rfl
theorem an6{v r:Nat}(aI:v<=8)(al:r<=1)(h:¬(v=0/\r=1)):mF wg tmps todo ((4294967296*v+r:Nat):Int)=true:=by
 rcases (show r=0\/r=1 by omega) with rfl|rfl<;>rcases (show v=0\/v=1\/v=2\/v=3\/v=4\/v=5\/v=6\/v=7\/v=8 by omega) with rfl|rfl|rfl|rfl|rfl|rfl|rfl|rfl|rfl
 ·exact av4 ..
 ·exact av5 ..
 ·exact av6 ..
 ·exact av7 ..
 ·exact av8 ..
 ·exact av9 ..
 ·exact awa ..
 ·exact awb ..
 ·exact awc ..
 ·exact absurd ⟨rfl,rfl⟩ h
 ·exact awd ..
 ·exact awe ..
 ·exact awf ..
 ·exact awg ..
 ·exact awh ..
 ·exact awi ..
 ·exact awj ..
 ·exact awk ..
end
end
section
open Go.ConcM (OsLater muBlock)
open Go.ConcR (wgBlock WgAt stA smA)
theorem zF:gy Tryz.prog 130 Tryz.f130 (fun _=>pure (.bool false)):=⟨Tryz.func130,by kernel_rfl,by kernel_rfl,by kernel_rfl,by kernel_rfl⟩
theorem Xo:gy Tryz.prog 168 Tryz.f168 (Extern.Atomic.update (Op.intArith .add) .u64 true):=⟨Tryz.func168,by kernel_rfl,by kernel_rfl,by kernel_rfl,by kernel_rfl⟩
theorem Xp:gy Tryz.prog 169 Tryz.f169 (Extern.Atomic.loadT (.int .u64)):=⟨Tryz.func169,by kernel_rfl,by kernel_rfl,by kernel_rfl,by kernel_rfl⟩
theorem an7:gy Tryz.prog 170 Tryz.f170 Extern.Atomic.storeT:=⟨Tryz.func170,by kernel_rfl,by kernel_rfl,by kernel_rfl,by kernel_rfl⟩
theorem an8:gy Tryz.prog 139 Tryz.f139 Extern.Sync.semrelease:=⟨Tryz.func139,by kernel_rfl,by kernel_rfl,by kernel_rfl,by kernel_rfl⟩
theorem Pp:Tryz.prog.underlying 252=some (.pointer 210):=by kernel_rfl
theorem z210:(Tryz.prog.info? 210).map (fun i=>decide (i.size=0))=some false:=by kernel_rfl
structure lB(i wg:Nat)(s:ay)(d:WD)(k:Nat):Prop where
 pos:0<i
 on:s.on=true
 n0:s.n0<=i
 aR:i<s.aR
 wd:s.wd i=d
 bH:s.bH i=k
 QI:s.wg=wg
 eN:s.cap<=s.n0+8
section
variable{tM tW:TypeId}{os0:eB}{Post:Value->World->Prop}{i wg:Nat}{s γ:ay}{h:ab}{d:WD}{k:Nat}{aY:Frame}{cs:List Frame}{Q:ay->ab->Goroutine->Prop}
theorem lB.rel(D:lB i wg s d k)(r:ay.lS i s γ):lB i wg γ d k:=
 ⟨D.pos,r.on.trans D.on,by rw [r.n0];exact D.n0,Nat.lt_of_lt_of_le D.aR r.aR,r.wd.trans D.wd,r.bH.trans D.bH,r.wg.trans D.QI,by rw [r.cap,r.n0];exact D.eN⟩
theorem lB.gi(D:lB i wg s d k){gE:WD}{wv wr ws:Nat}{es:Array Event}{k':Nat}(hk:deafBehind k es=k'):lB i wg (s.gi i gE wv wr ws es) gE k':=
 ⟨D.pos,D.on,D.n0,D.aR,Go.ConcN.upd_same _ _ _,by show Go.ConcN.upd s.bH i (deafBehind (s.bH i) es) i=_;rw [Go.ConcN.upd_same,D.bH,hk],D.QI,D.eN⟩
theorem an9{n n0:Nat}{f:Nat->Nat}(aP:∀j,f j<=1):Go.ConcN.sumTo n (fun j=>if n0<=j then f j else 0)<=n- n0:=by
 induction n with
 | zero=>simp [Go.ConcN.sumTo]
 | succ n aN=>
  simp only [Go.ConcN.sumTo];have:=aP n;split<;>omega
theorem KQ(γ:ay){f:WD->Nat}(aP:∀d,f d<=1):γ.dI f<=γ.aR- γ.n0:=an9 fun j=>aP _
theorem Gq(D:lB i wg γ d k)(f:WD->Nat):f d<=γ.dI f+f .eF:=by
 have:=Gp (d:=.eF) (wv:=0) (wr:=0) (ws:=0) (es:=#[]) γ f D.aR D.n0;rw [D.wd] at this;omega
theorem aoa{st jD t:TypeId}{a:Addr}(iz:i<s.aR)(aj:FJ aY=some (st,jD,.pointer (some a)))(hk:iV aY=true)(gX:Tryz.prog.underlying st=some (.pointer t))(fi:Tryz.prog.underlying jD=some .unsafePointer)(eJ:(Tryz.prog.info? t).map (fun i=>decide (i.size=0))=some false)
  (hc:∀(γ:ay) (n:Nat) (hs:Nat->ab) (w:World) (t:Trace),ay.lS i s γ->dh tM tW os0 γ n hs w t->∃v,w.cell? a=some v)
  (kk:∀γ,ay.lS i s γ->dp Tryz.prog false ((fC Tryz.prog tM tW os0 Post).hM i) Q γ h (Conc.G (aY.finish (.pointer (some a))) cs)):
  dp Tryz.prog false ((fC Tryz.prog tM tW os0 Post).hM i) Q s h (Conc.G aY cs):=by
 have key:∃o x,zY aY=some o/\o.op=.convert st jD x/\aY.eval x=.pointer (some a):=by
  unfold FJ at aj;split at aj
  ·rename_i o aQ;split at aj
   ·rename_i ai gE x aF;simp only [Option.some.injEq,Prod.mk.injEq] at aj;obtain ⟨rfl,rfl,aa⟩:=aj;exact ⟨o,x,aQ,aF,aa⟩
   ·cases aj
  ·cases aj
 obtain ⟨o,x,aQ,aF,aa⟩:=key;obtain ⟨ops,j,rest,k,e,h1,h2,h3⟩:=UU aQ;have QH:aY.kind≠.early:=by intro h;unfold iV at hk;rw [h] at hk;cases hk
 have iO:aY.eval=(⟨aY.tmps,aY.defers⟩:Act).eval:=by rw [e];exact bn.GK _
 refine dp.sync ⟨rfl,rfl,fun γ n dX w bt al cQ hi aG he=>.inr ?_⟩;obtain ⟨v,OB⟩:=hc γ n dX w bt (al.s iz aG) cQ;have l2:(execOp (⟨aY.tmps,aY.defers⟩:Act).eval o).runT Tryz.prog w #[]=(.ok (.value (.pointer (some a))) w,#[]):=by
  rw [u6];have e1:execOp (⟨aY.tmps,aY.defers⟩:Act).eval o=(do pure (.value (<- convert st jD (.pointer (some a)))):Sem Next):=by
   have gl:(⟨aY.tmps,aY.defers⟩:Act).eval x=.pointer (some a):=by rw [<- iO];exact aa
   unfold execOp;rw [aF,<- gl]
  rw [e1];refine Prod.ext ?_ ?_
  ·simp [run_convert_to_unsafe gX fi eJ OB,Result.andThen]
  ·simp [run_convert_to_unsafe gX fi eJ OB,events_convert_to_unsafe gX fi eJ OB,Result.evThen]
 have cj:=tq (P:=Tryz.prog) (main:=false) (b:=⟨aY.fn,aY.kind,aY.roundOf⟩) (a:=⟨aY.tmps,aY.defers⟩) (rest:=rest) (k:=k) (cs:=cs) h1 h2 (by unfold lE;rw [aF]) QH l2 rfl;rw [seen_none,<- e,<- h3] at cj;refine ⟨γ,_,w,#[],h,cj,?_,fun j _=>⟨.refl j γ,Iff.rfl⟩,fun j a b=>absurd a b,.inr ⟨aG,rfl,kk γ (al.s iz aG)⟩⟩;rw [<- he,p9];have:(bt++opsOf i (Conc.G aY cs) #[])=bt:=by
  show bt++MemOp.ofEvents _ _ _ #[]=bt;rw [ofEvents_eq];simp
 rw [this];exact cQ
abbrev tO(tM tW:TypeId)(os0:eB)(Post:Value->World->Prop)(i:Nat)(Q:ay->ab->Goroutine->Prop)(s:ay)(h:ab)(st:Frame×List Frame):Prop:=
 dp Tryz.prog false ((fC Tryz.prog tM tW os0 Post).hM i) Q s h (Conc.G st.1 st.2)
theorem xc{v:Value}{st:Frame×List Frame}(r:tO tM tW os0 Post i Q s h (ar st v)):dp Tryz.prog false ((fC Tryz.prog tM tW os0 Post).hM i) Q s h (Conc.G (st.1.finish v) st.2):=Oy 200 r
theorem Wi{d n:Nat}{aY:Frame}{cs:List Frame}(h:quits Tryz.prog 129 n d aY cs=true):QuitsD Tryz.prog n d (Conc.G aY cs):=
 adz k6.f k6.name k6.body k6.next k6.find n d aY cs h
theorem aiA{γ:ay}(W:γ.oo){γ':ay}(e1:γ'.wv=γ.wv)(e2:γ'.wr=γ.wr)(e3:γ'.ws=γ.ws)(e4:γ'.ms=γ.ms)(e5:∀f,γ'.dI f=γ.dI f):γ'.oo:=by
 have v:=W.v;have st:=W.st;exact ⟨by rw [e1,e5,e4];exact v,by rw [e4,e2,e3,e1,e5,e5];exact st⟩
theorem alr(D:lB i wg γ d k){wv wr ws:Nat}{es:Array Event}(f:WD->Nat):(γ.gi i d wv wr ws es).dI f=γ.dI f:=by
 have:=Gp (d:=d) (wv:=wv) (wr:=wr) (ws:=ws) (es:=es) γ f D.aR D.n0;rw [D.wd] at this;omega
def aam(wg:Nat)(e:Event):Prop:=e.loc=.mark .disable\/e.loc=.mark .enable\/∃o x,e=⟨.cell ⟨wg,o,none⟩,x,true⟩
theorem BA{f:FuncId}{fn:Func}{x:Array Value->Sem Value}{args:List Value}(X:gy Tryz.prog f fn x)(aj:jQ aY=some (f,args))(hk:iV aY=true)(D:lB i wg s d k)(hd:d≠.wk/\d≠.eF)
  (hs:∀(γ:ay) (w:World),lB i wg γ d k->γ.oo->γ.aR<=γ.cap->WgAt tW wg w ((4294967296*γ.wv+γ.wr:Nat):Int) ((γ.ws:Nat):Int)->∃v w' evs gE m7 m8 kW,(x args.toArray).run Tryz.prog w=.ok v w'/\(x args.toArray).events Tryz.prog w #[⟨.mark (.extern f),false,true⟩]=#[⟨.mark (.extern f),false,true⟩]++evs/\(∀y∈evs,y.sync=true/\∀g,y.loc≠.mark (.extern g))/\
   (w'.heap.size=w.heap.size/\(∀b,b≠wg->w'.heap[b]? =w.heap[b]?)/\WgAt tW wg w' ((4294967296*m7+m8:Nat):Int) ((kW:Nat):Int)/\(w'.os=w.os/\w'.output=w.output))/\
   (∀j e,evs[j]? =some e->aam wg e/\((MemAct.ofEvent e).touch? =none\/0<deafBehind k (evs.extract 0 j)))/\(γ.gi i gE m7 m8 kW evs).oo/\gE≠.wk/\m7<=γ.wv/\(γ.ms≠.reg->kW=γ.ws/\m8=γ.wr)/\
   ((gE=.eF/\∃q,QuitsD Tryz.prog q (deafBehind k evs) (Conc.G (aY.finish v) cs))\/(gE≠.eF/\(lB i wg (γ.gi i gE m7 m8 kW evs) gE (deafBehind k evs)->dp Tryz.prog false ((fC Tryz.prog tM tW os0 Post).hM i) Q (γ.gi i gE m7 m8 kW evs) ab.empty (Conc.G (aY.finish v) cs))))):
  dp Tryz.prog false ((fC Tryz.prog tM tW os0 Post).hM i) Q s ab.empty (Conc.G aY cs):=by
 refine Wh X aj hk fun γ n dX w t al cQ hi aG he=> ?_;have R:=al.s D.aR aG;have dZ:=D.rel R;have HF:=dZ.QI;have hW:=cQ.jd dZ.on;rw [HF] at hW;obtain ⟨v,w',evs,gE,m7,m8,kW,c1,c2,c3,⟨c4,c5,c6,dC⟩,eN,ox,c10,sO,awl,Df⟩:=hs γ w dZ cQ.hl (by rw [cQ.aR];exact cQ.cap) hW;have fW:=(cQ.gR dZ.on).2.1;rw [HF] at fW;obtain ⟨g1,g2⟩:=cQ.gi (d:=gE) (wv:=m7) (wr:=m8) (ws:=kW) (es:=evs) (w':=w') D.pos hi dZ.on dZ.n0 (by rw [dZ.wd];exact hd.1) (by rw [dZ.wd];exact hd.2) c10 he ox c4 (fun b hb=>c5 b (by rw [<- HF];exact hb)) (by rw [HF];exact c6) (ni.of dC.1 dC.2)
  (fun j e he=>by
   obtain ⟨an,az⟩:=eN j e he;rw [dZ.bH];refine ⟨?_,az⟩;rcases an with q|q|⟨o,y,rfl⟩
   ·exact .inl q
   ·exact .inr (.inl q)
   ·exact .inr (.inr ⟨_,y,rfl,fW⟩)) aY.fn aY.place
 refine ⟨v,w',evs,γ.gi i gE m7 m8 kW evs,ab.empty,c1,c2,c3,by rw [<- he,p9];exact g1,Wf sO awl,fun hw=>Xl (.inr hw),?_⟩;rcases Df with ⟨rfl,q,aE⟩|⟨ao,qo⟩
 ·refine .inl ⟨⟨by have:=D.pos;omega,Go.ConcN.upd_same _ _ _⟩,q,?_⟩;have e1:Deaf (t++opsOf i (Conc.G aY cs) evs) i=deafBehind k evs:=by
   refine Eq.trans g2 ?_;rw [dZ.bH]
  rw [e1];exact aE
 ·exact .inr ⟨fun Dg=>ao (by have:=Dg.2;rw [show (γ.gi i gE m7 m8 kW evs).wd i=gE from Go.ConcN.upd_same _ _ _] at this;exact this),qo (dZ.gi rfl)⟩
theorem tD(D:lB i wg γ d k)(gE:WD){wv wr ws:Nat}{es:Array Event}(f:WD->Nat):(γ.gi i gE wv wr ws es).dI f+f d=γ.dI f+f gE:=by
 have:=Gp (d:=gE) (wv:=wv) (wr:=wr) (ws:=ws) (es:=es) γ f D.aR D.n0;rw [D.wd] at this;exact this
theorem Gr{γ:ay}(W:γ.oo)(h:0<γ.dI ay.gQ\/0<γ.dI ay.hy\/γ.wr=1):γ.ms=.reg:=by
 have st:=W.st;cases hm:γ.ms with
 | reg=>rfl
 | eR p=>rw [hm] at st;simp at st;omega
 | loop=>rw [hm] at st;simp at st;omega
 | mU=>rw [hm] at st;simp at st;omega
 | tN=>rw [hm] at st;simp at st;omega
theorem aqm{ie:Frame×List Frame}(aj:jQ ie.1=some (139,[.pointer (some ⟨wg,1,none⟩),.bool false,.int .i64 0]))(hk:iV ie.1=true)(awm:quits Tryz.prog 129 400 1 (ie.1.finish (.tuple #[])) ie.2=true)
  (D:lB i wg s .a3 1):tO tM tW os0 Post i Q s ab.empty ie:=by
 obtain ⟨aY,cs⟩:=ie;refine BA an8 aj hk D ⟨by simp,by simp⟩ fun γ w dZ W jA fc=> ?_;have c3:=Gq dZ ay.hy;simp [ay.hy] at c3;have hz:=Gr W (.inr (.inl (by omega)));have st:=W.st;have aI:=W.v;rw [hz] at st;have aE:γ.wr=0/\γ.wv=0/\γ.dI ay.gQ=0/\γ.ws=0/\γ.dI ay.hy=1:=by rcases st with st|st<;>omega
 obtain ⟨an,az,aB,aX,cp⟩:=aE;rw [aX,an,az] at fc;have eY:w.cell? ⟨wg,1,none⟩=some (.int .u32 (0:Int)):=fc.cellSm;have jy:w.frozen? ⟨wg,1,none⟩=false:=fc.thaw 1;have gX:=tD dZ .eF (wv:=0) (wr:=0) (ws:=1) (es:=semEvents (smA wg)) ay.ic;have fi:=tD dZ .eF (wv:=0) (wr:=0) (ws:=1) (es:=semEvents (smA wg)) ay.gQ;have jk:=tD dZ .eF (wv:=0) (wr:=0) (ws:=1) (es:=semEvents (smA wg)) ay.hy;simp only [ay.ic,ay.gQ,ay.hy] at gX fi jk;have A:=aside_setCell w (smA wg) (.int .u32 1);refine ⟨.tuple #[],w.setCell (smA wg) (.int .u32 1),semEvents (smA wg),.eF,0,0,1,?_,?_,semEvents_sync _,⟨A.size,fun b hb=>A.block b hb,fc.setSm 1,A.os,A.output⟩,fun j e he=> ?_,⟨?_,?_⟩,by simp,by omega,fun hh=>absurd hz hh,.inl ⟨rfl,400,?_⟩⟩
 ·simp [Extern.Sync.semrelease,Extern.Sync.count,eY,jy,Extern.Sync.none_,Op.intArith,show IntKind.u32.wrap 1=1 by decide,run_store Tryz.prog w ⟨wg,1,none⟩ (.int .u32 1) .atomic rfl,Result.andThen,smA]
 ·simp [Extern.Sync.semrelease,Extern.Sync.count,eY,jy,semEvents,Op.intArith,show IntKind.u32.wrap 1=1 by decide,events_load,events_store Tryz.prog w _ ⟨wg,1,none⟩ (.int .u32 1) .atomic rfl,run_store Tryz.prog w ⟨wg,1,none⟩ (.int .u32 1) .atomic rfl,Result.evThen,smA]
 ·match j,he with
  | 0,he=>simp [semEvents] at he;subst he;exact ⟨.inl rfl,.inl rfl⟩
  | 1,he=>simp [semEvents] at he;subst he;exact ⟨.inr (.inr ⟨1,_,rfl⟩),.inr (by simp [deafBehind,semEvents])⟩
  | 2,he=>simp [semEvents] at he;subst he;exact ⟨.inr (.inr ⟨1,_,rfl⟩),.inr (by simp [deafBehind,semEvents])⟩
  | 3,he=>simp [semEvents] at he;subst he;exact ⟨.inr (.inl rfl),.inl rfl⟩
  | j+4,he=>simp [semEvents] at he
 ·show 0=_+(if γ.ms=.eR true then 1 else 0);rw [hz] at aI ⊢;simp at aI ⊢;omega
 ·show (match γ.ms with|.eR _|.loop=>_|.reg=>_|.mU|.tN=>_);rw [hz];right;exact ⟨rfl,rfl,by omega,by show 1+_=1;omega⟩
 ·rw [show deafBehind 1 (semEvents (smA wg))=1 by simp [deafBehind,semEvents]];exact Wi awm
end
end
end
end Go.Nk
