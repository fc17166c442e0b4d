/- Part Pap of the proof of ButtTexts: lemmas. -/
import Derived.Conc.Own2
import Derived.Test.YthgephlghkjiaaaGreatDoorPao
set_option maxRecDepth 100000
set_option maxHeartbeats 4000000
set_option linter.all false
namespace Go.Nk
noncomputable section
open Go Go.Conc Go.Proofs
open Bool renaming false->q9,true->J
open Go renaming Value->o5,World->tg,deafBehind->A0,TypeId->ta,Operand->su,FuncId->vb,stepG->vx,undef->vk,execOp->T0,Code->rj,Program->tb,convert->atU,Deferred->tc
open Go.Conc renaming G->B5,Deaf->T5,Deaf_push->aAf
open Go.ConcN renaming upd->at7,sumTo->at6,upd_same->atY,upd_ne->auc
open Go.Extern.Race renaming none_->auA,marked->auB,at_->avS
open Go.Instr renaming fieldAt->at3,storeAt->aub,extract->avo,endRound->ave
open Go.Proofs.Tryz renaming prog->pv,f103->aAg,underlying210->aBP
open List renaming getD_cons_zero->aut,getD_cons_succ->aw6
open Nat renaming le_refl->vr,not_lt->axe,reducePow->ax0
open Option renaming some->C,none->o0
section
open Go.ConcM (OsLater muBlock)
open Go.ConcR (wgBlock WgAt stA smA)
section
variable{os0:eI}{Post:o5->tg->Prop}{s γ:av}{h:ae}{K:av->ae->o5->Prop}{n:Nat}{hs:Nat->ae}{w:tg}{t:Trace}{b:aS}{wg mu b0 k:Nat}
structure jh(s:av)(mu wg b0:Nat)(ms:jx)(k:Nat)(I:(Nat->List cV)->ae->Prop)(full:Nat->List cV)(N:Nat):Prop where
 m:gM s wg mu ms k
 n0:s.n0=N
 cap:s.cap=N+8
 b0:s.b0=b0
 I:s.I=I
 full:s.full=full
 ne:mu≠wg
def jh.mk'{ms ms':jx}{k':Nat}{I:(Nat->List cV)->ae->Prop}{full:Nat->List cV}{N:Nat}(B:jh s mu wg b0 ms k I full N)(r:gX s γ)(M:gM γ wg mu ms' k'):jh γ mu wg b0 ms' k' I full N:=⟨M,r.n0.trans B.n0,r.cap.trans B.cap,r.b0.trans B.b0,r.I.trans B.I,r.full.trans B.full,B.ne⟩
def ag5{I:(Nat->List cV)->ae->Prop}{full:Nat->List cV}{gd':ae}(D:Kl s mu wg b0)(H:∀b x,gd' b=C x->h b=C x)(ab:gd'.kK)(L:I (λ_=>[]) gd')
  (kk:∀γ,jh γ mu wg b0 (.eS q9) 1 I full s.aG->γ.aG=s.aG->K γ (h.del gd') (.tuple #[])):ej pv J (SM 203 210 os0 Post) 128 #[] s h (K:=⟨K⟩):=by
 refine .inr (.inr λb o aA xs gH M ag=>yo λa ops j rest k cs hk N P hw γ n az w t Q c r=>.inr ?_);subst N;have R:=rS Q D.m.aG;have d:=D.m.rel R;have u:=(R.z rfl).2.2.1;have S:=s9 (rest:=rest) (main:=J) (b:=b) (a:=a) (k:=k) (cs:=cs) (w:=w) (w':=w) (v:=.tuple #[]) (evs:=#[⟨.mark .disable,q9,J⟩]) P hw hk M rO.f rO.name rO.body rO.next rO.find (by simp[auA]) Y (by intro y A;simp at A;subst A;exact⟨rfl,λg h=>by cases h⟩)
 have W:=c.gh (ms:=γ.ms) (wv:=γ.wv) (wr:=γ.wr) (ws:=γ.ws) (es:=#[⟨.mark .disable,q9,J⟩]) (w':=w) d.on (wo c.hB) rfl (λ_ _=>rfl) (c.jf d.on) (.refl _) (λe F=>by simp at F;subst F;exact .inl (.inl rfl)) (B5 (b.at a (.inRegion ops (j::rest)::k)) cs).frame.fn (B5 (b.at a (.inRegion ops (j::rest)::k)) cs).frame.place;have p:γ.n0=γ.aG:=by rw[R.n0,D.n0,u]
 have B:=W.zC (mu:=mu) (wg:=wg) (b0:=b0) (k:=0) (gd':=gd') (I:=I) (full:=full) d.on p (R.I.trans D.I) (by rw[r];exact H) ab L;rw[r]at B;refine⟨_,.tuple #[],w,_,h.del gd',S,B,λj E=> ?_,λj h1 h2=> ?_,?_⟩
 .refine⟨?_,Iff.rfl⟩;by_cases q:γ.aG<=j
  .exact .inl q
  .have:=c.old j U (by rw[p];omega);exact .inr (.inl ⟨E,vr _,this,this⟩)
 .exfalso;have i:γ.waits j:=h1;unfold av.waits at i;split at i
  .rw[d.ms]at i;cases i.1
  .rename_i E;have X:γ.x.md j=.out:=by
    by_cases q:j<γ.aG
    .exact c.out j (.inr (.inr (by rw[c.old j U (by rw[p];exact q)];simp)))
    .exact c.out j (.inr (.inl (by rw[<- c.aG];omega)))
   rw[X]at i;cases i.1
 .have l:=d.gh (ms':=γ.ms) (wv:=γ.wv) (wr:=γ.wr) (ws:=γ.ws) (es:=#[⟨.mark .disable,q9,J⟩]) (k':=1) (by simp[A0]);rw[d.ms]at l;exact kk _ ⟨⟨l.on,l.aG,d.ms,by have:=l.bC;rw[d.ms];exact this,l.wg,l.mu⟩,R.n0.trans D.n0,by show γ.cap=_;rw[R.cap,D.cap],R.b0.trans D.b0,rfl,rfl,D.ne⟩ u
end
end
section
open Go.ConcM (OsLater muBlock)
open Go.ConcR (wgBlock WgAt stA smA)
def av.fork(γ:av)(n:Nat):av:= {γ with aG:=n+1,ms:=.eS q9,wd:=at7 γ.wd n .wk,bC:=at7 γ.bC n 0}
section
variable{tM tW:ta}{os0:eI}{Post:o5->tg->Prop}{s γ:av}{h:ae}{K:av->ae->o5->Prop}{n:Nat}{hs:Nat->ae}{w:tg}{t:Trace}{b:aS}{wg mu b0 k:Nat}{h0 hc:ae}
def Km(a:γ.aG=n)(b:γ.n0<=n)(f:WD->Nat):(γ.fork n).dB f=γ.dB f+f .wk:=by show at6 (n+1) (λi=>if γ.n0<=i then f (at7 γ.wd n .wk i)else 0)=at6 γ.aG _+_;rw[a];simp only[at6,atY,if_pos b];congr 1;refine Go.ConcN.sumTo_congr λi hi=> ?_;rw[auc _ _ U]
def c8.fork(G:c8 tM tW os0 γ n hs w t)(M:γ.on=J)(A:γ.ms=.eS J)(N:n<γ.cap)(k:γ.n0<=n)(B:γ.bC 0=0)(S:Dh (hs 0) h0 hc){x y:MemOp}(o:x.g=0/\x.act=.go n)(l:y.g=n/\y.act=.start):c8 tM tW os0 (γ.fork n) (n+1) (cA (cA hs 0 h0) n hc) w (t++#[x,y]):=by
 have P:=G.pos;have D:¬γ.gone 0:=λh=>h.1 rfl;have E:T5 t 0=0:=(G.bC 0 G.pos D).trans B;have f:∀j,j≠n->(γ.fork n).wd j=γ.wd j:=λj c=>auc _ _ c;have m:(γ.fork n).wd n=.wk:=atY _ _ _;have r:∀j,j≠0->j≠n->cA (cA hs 0 h0) n hc j=hs j:=λj h1 b=>by rw[gn _ _ b,gn _ _ h1]
 have s:t++#[x,y]=(t++#[x])++#[y]:=by rw[Array.append_assoc];rfl
 have F:∀j,T5 (t++#[x,y]) j=T5 t j:=λj=>by rw[s,aAf,aAf];simp[deafStep,o.2,l.2]
 have H:=G.hi.fork (h0:=h0) (hc:=hc) G.pos (Or.inl rfl) S o l E;have I:(λg=>γ.aW g\/g=n)=(γ.fork n).aW:=by funext g;unfold av.aW;show((g=0\/(γ.n0<=g/\g<γ.aG))\/g=n)=(g=0\/(γ.n0<=g/\g<n+1));rw[G.aG];refine propext ⟨λh=> ?_,λh=> ?_⟩<;>omega
 rw[I]at H;exact{
  aG:=rfl
  pos:=U
  n0:=⟨G.n0.1,by show γ.n0<=n+1;omega⟩
  hi:=H
  je:=by
   have c:∀i,0<i->(γ.fork n).eN (cA (cA hs 0 h0) n hc) i=γ.eN hs i\/(γ.fork n).eN (cA (cA hs 0 h0) n hc) i=.wk:=λi hi=>by
    unfold av.eN;by_cases d:i=n
    .subst d;rw[m];right;rw[if_neg (show ¬i<(γ.fork i).n0 from axe.2 k),if_pos (.inl rfl)]
    .left;rw[f i d,r i U d];rfl
   have p:(γ.fork n).eN (cA (cA hs 0 h0) n hc) n=.wk:=by unfold av.eN;rw[if_neg (show ¬n<(γ.fork n).n0 from axe.2 k),if_pos (.inl m)]
   have Jz:=((G.je.weaken c).app (g:=0) (u:=#[x]) (λop a=>by simp at a;subst a;exact o.1) (λop a=>by simp at a;subst a;rw[o.2];simp) (λh=>by omega)).app (g:=n) (u:=#[y]) (λop a=>by simp at a;subst a;exact l.1) (λop a=>by simp at a;subst a;rw[l.2];simp) (λ_ h=>absurd p h);rw[<- s]at Jz;refine⟨Jz.norel,λi hi h1 e=> ?_,λi hi h1 e=> ?_⟩
   .by_cases d:i=n
    .subst d;rw[p]at e;cases e
    .exact Jz.rz i hi U e
   .by_cases d:i=n
    .subst d;rw[p]at e;cases e
    .exact Jz.jn i hi U e
  bC:=λj c K=>by
   rw[F];show _=at7 γ.bC n 0 j;by_cases e:j=n
   .subst e;rw[atY];exact Go.ConcN.Deaf_absent λi op hi e=>by have:=G.hi.fo.gs i op hi;omega
   .rw[auc _ _ e];exact G.bC j U λh=>K ⟨h.1,by rw[f j e];exact h.2⟩
  old:=λj h1 b=>by have L:j<γ.n0:=b;rw[f j U];exact G.old j h1 L
  jy:=G.jy
  jf:=G.jf
  gP:=G.gP
  ok:=G.ok
  cap:=by show n+1<=γ.cap;omega
  out:=λj c=>by
   by_cases e:j=n
   .subst e;exact G.out j (.inr (.inl (vr _)))
   .rw[f j e]at c;exact G.out j (c.imp_right (Or.imp_left λh=>by omega))
  cw:=λi hi=>⟨by have:=(G.cw i hi).1;omega,(G.cw i hi).2⟩
  kW:=G.kW
  full:=λi h1 b q=>by
   by_cases e:i=n
   .subst e;exact absurd m q
   .rw[f i e]at q;exact G.full i h1 U q
  hB:=by
   have v:=G.hB.v;have z:=G.hB.st;rw[A]at v z;simp at v z;refine⟨?_,?_⟩
   .show γ.wv=(γ.fork n).dB av.iC+(if jx.eS q9=jx.eS J then 1 else 0);rw[Km G.aG k];simp[av.iC];omega
   .show γ.wr=0/\γ.ws=0/\(γ.fork n).dB av.gO=0/\(γ.fork n).dB av.ic=0;rw[Km G.aG k,Km G.aG k];simp[av.gO,av.ic];omega
  eO:=λj h1 b=>by
   by_cases e:j=n
   .subst e;rw[m]at b;cases b
   .rw[f j e]at b;rw[r j U e];exact G.eO j h1 b
  os:=G.os
  jZ:=G.jZ
  j5:=G.j5
  kq:=λi h1 b=>G.kq i U b}
def ag6{a:Act}{ops:Array Oper}{j:Nat}{rest:List Nat}{k:List Item}{cs:List Frame}{o:Oper}{x:su}{f:vb}{cap:Array o5}{gH:Array ta}(c:o.op=.go ⟨.value x,#[],gH⟩)(l:a.eval x=.func (.func f) #[] cap)(m:b.kind≠.early)(d:ops[j]? =C o)
  (n:Region.wanted o (yielded ops a.tmps)=J):vx pv J (B5 (b.at a (.inRegion ops (j::rest)::k)) cs) w=.spawn (B5 (b.at (a.put o.dst vk) (.inRegion ops rest::k)) cs) (born pv {target:=.fn (.func f) cap,args:=#[]}) w #[]:=by
 have e:(T0 a.eval o).runT pv w #[]=(.ok (.spawn {target:=.fn (.func f) cap,args:=#[]}) w,#[]):=by
  unfold T0;rw[c];simp only[resolve,l,Deferred.ofValue];have:(#[]++Array.map a.eval #[]:Array o5)=#[]:=Y
  rw[this];rfl
 have g:(b.kind==CallKind.early)=q9:=by simpa using m
 have h:∀v,(b.at a (.inRegion ops (j::rest)::k)).finish v=b.at (a.put o.dst v) (.inRegion ops rest::k):=λv=>by rw[aS.finish_at,d];rfl
 rw[GA d n (by unfold kS;rw[c])];unfold stepG.apply;simp only[if_true,e];have i:(b.at a (.inRegion ops (j::rest)::k)).kind=b.kind:=rfl;simp only[i,g,Bool.false_eq_true,if_false];rw[h];simp[seen_none,GStep.after,born,G]
def ag7{cap:Array o5}{N:Nat}{I:(Nat->List cV)->ae->Prop}{full:Nat->List cV}(B:jh s mu wg b0 (.eS J) 0 I full N)(bk:s.aG<N+8)(hN:N<=s.aG)(S:Dh h h0 hc)
  (ba:∀γ,dI s.aG γ γ .out 0 b0 q9 []->γ.I=I->γ.full=full->γ.mu=mu->γ.wg=wg->γ.n0=N->γ.cap=N+8->dv pv q9 (dY tM tW os0 Post s.aG) (λ_ _ _=>False) γ hc (born pv {target:=.fn (.func 97) cap,args:=#[]}))
  (kk:∀γ,jh γ mu wg b0 (.eS q9) 0 I full N->γ.aG=s.aG+1->K γ h0 vk):
  tX pv J (SM tM tW os0 Post) b (.func (.func 97) #[] cap) #[] s h (K:=⟨K⟩):=by
 intro o aA x xs gH A D E Q a ops j rest k cs hk F H hw c;subst F;have L:xs=#[]:=by have:=congrArg Array.size E;simp at this;exact this
 subst L;refine dv.sync ⟨rfl,rfl,λγ n M w t P i W=>.inr (.inr ?_)⟩;have R:=rS P B.m.aG;have d:=B.m.rel R;have X:=(R.z rfl).2.2.1;have hn:n=s.aG:=i.aG.symm.trans X;subst hn;have r:γ.n0=N:=R.n0.trans B.n0;have q:γ.cap=N+8:=R.cap.trans B.cap;have ad:=ag6 (rest:=rest) (k:=k) (cs:=cs) (w:=w) A D hk H hw;have af:=i.fork (h0:=h0) (hc:=hc) (x:= {g:=0,fn:=(B5 (b.at a (.inRegion ops (j::rest)::k)) cs).frame.fn,pos:=(B5 (b.at a (.inRegion ops (j::rest)::k)) cs).frame.place,act:=.go s.aG})
  (y:= {g:=s.aG,fn:=(born pv {target:=.fn (.func 97) cap,args:=#[]}).frame.fn,pos:=(B5 (b.at a (.inRegion ops (j::rest)::k)) cs).frame.place,act:=.start}) d.on d.ms (by rw[q];omega) U d.bC (by rw[W];exact S) ⟨rfl,rfl⟩ ⟨rfl,rfl⟩
 have ag:=i.pos;obtain⟨u1,u2⟩:=i.kq s.aG (vr _) (by rw[q];omega);have a7:dI s.aG (γ.fork s.aG) (γ.fork s.aG) .out 0 b0 q9 []:=⟨⟨ag,d.on,atY _ _ _,by show γ.n0<=s.aG;omega,Nat.lt_succ_self _⟩,by show s.aG<γ.cap;omega,by show γ.cap<=γ.n0+8;omega,.refl _ _,i.out _ (.inr (.inl (vr _))),u2.trans (R.b0.trans B.b0),atY _ _ _,⟨λe=>by have:=(i.cw _ e).1;omega,λe=>by cases e⟩,u1⟩
 refine⟨γ.fork s.aG,_,_,w,#[],h0,hc,ad,?_,λf h1 v=> ?_,λf h1=> ?_,λhg=> ?_,ba _ a7 (R.I.trans B.I) (R.full.trans B.full) d.mu d.wg r q,rfl,c _ _ _ (kk _ ⟨⟨d.on,Nat.succ_pos _,rfl,?_,d.wg,d.mu⟩,r,q,R.b0.trans B.b0,R.I.trans B.I,R.full.trans B.full,B.ne⟩ rfl)⟩
 .rw[ys];have e:∀x y:MemOp,(t.push x).push y=t++#[x,y]:=λx y=>by rw[show(#[x,y]:Array MemOp)=#[x]++#[y]from rfl,<- Array.append_assoc];rfl
  show c8 tM tW os0 (γ.fork s.aG) (s.aG+1) (cA (cA M 0 h0) s.aG hc) w ((t.push _).push _);rw[e];exact af
 .have u:(γ.fork s.aG).wd f=γ.wd f:=auc _ _ v;refine⟨?_,by show(f≠0/\_)↔(f≠0/\_);rw[u]⟩;by_cases l:γ.aG<=f
  .exact .inl l
  .exact .inr (.inr ⟨by show γ.aG<=s.aG+1;omega,rfl,rfl,rfl,rfl,rfl,rfl,rfl,u,rfl,rfl,auc _ _ v,Iff.rfl,rfl,vr _,λh=>absurd rfl h,λ_=>rfl,λh=>absurd h h1,rfl,rfl⟩)
 .have p:γ.waits f:=h1;show(γ.fork s.aG).waits f;unfold av.waits at p ⊢;split
  .rename_i l;rw[if_pos l,d.ms]at p;cases p.1
  .rename_i l;rw[if_neg l]at p;exact p
 .have:=hg.2;rw[show(γ.fork s.aG).wd s.aG=.wk from atY _ _ _]at this;cases this
 .show at7 γ.bC s.aG 0 0=0;rw[auc _ _ U];exact d.bC
end
end
section
open Go.ConcM (OsLater muBlock)
open Go.ConcR (wgBlock WgAt stA smA)
def av.joined(γ:av):av:= {γ with n0:=γ.aG,on:=q9,ms:=.eS q9,wv:=0,wr:=0,ws:=0,aT:=ae.empty}
section
variable{tM tW:ta}{os0:eI}{Post:o5->tg->Prop}{s γ:av}{h:ae}{K:av->ae->o5->Prop}{n:Nat}{hs:Nat->ae}{w:tg}{t:Trace}{b:aS}{wg mu b0 k:Nat}
def ag8{m:Nat}{f:Nat->Nat}(h:at6 m f=0):∀i,i<m->f i=0:=by
 intro i hi;refine Classical.byContradiction λb=> ?_
 induction m with
 |zero=>omega
 |succ m a=>
  simp only[at6]at h;by_cases e:i=m
  .subst e;omega
  .exact a U U
def ag9{γ:av}(W:γ.nL)(h:γ.ms=.mC\/(γ.ms=.loop/\γ.wv=0)):∀i,γ.n0<=i->i<γ.aG->γ.wd i=.eO:=by
 intro i h1 m;have v:=W.v;have e:=W.st;have j:γ.dB av.iC=0/\γ.dB av.gO=0/\γ.dB av.ic=0:=by rcases h with g|⟨g,o⟩<;>rw[g]at v e<;>simp at v e<;>omega
 obtain⟨k,n,eZ⟩:=j;have q:∀f:WD->Nat,γ.dB f=0->f (γ.wd i)=0:=λf l=>by have:=ag8 l i m;simpa[h1]using this
 have b:=q _ k;have c:=q _ n;have d:=q _ eZ;cases a:γ.wd i with
 |eO=>rfl
 |wk=>rw[a]at b;cases b
 |jv=>rw[a]at b;cases b
 |a1=>rw[a]at c;cases c
 |a2=>rw[a]at c;cases c
 |a3=>rw[a]at d;cases d
def c8.join(G:c8 tM tW os0 γ n hs w t)(l:γ.on=J)(y:γ.ms=.mC\/(γ.ms=.loop/\γ.wv=0))(z:γ.bC 0=0)(fn:vb)(pos:String):γ.cw=o0/\(∀j,γ.x.md j=.out)/\(∀j,0<j->j<n->γ.wd j=.eO)/\c8 tM tW os0 γ.joined n (cA hs 0 ((hs 0).add γ.aT)) w (t++MemOp.ofEvents 0 fn pos #[⟨.mark (.acquire ⟨γ.wg,0,o0⟩),q9,J⟩]):=by
 have A:=ag9 G.hB y;have k:∀j,0<j->j<n->γ.wd j=.eO:=λj h1 a=>by
  by_cases c:j<γ.n0
  .exact G.old j h1 c
  .exact A j U (by rw[G.aG];exact a)
 have s:∀j,γ.x.md j=.out:=λj=>by
  by_cases h0:j=0
  .exact G.out j (.inl h0)
  .by_cases c:n<=j
   .exact G.out j (.inr (.inl c))
   .exact G.out j (.inr (.inr (by rw[k j U U];simp)))
 have o:γ.cw=o0:=by
  cases B:γ.cw with
  |none=>rfl
  |some q=>have:=(G.cw q B).2;rw[s q]at this;cases this
 refine⟨o,s,k,?_⟩;obtain⟨W,D,S⟩:=G.gP l;have d:MemOp.ofEvents 0 fn pos #[⟨.mark (.acquire ⟨γ.wg,0,o0⟩),q9,J⟩]=#[{g:=0,fn,pos,act:=.mark (.acquire ⟨γ.wg,0,o0⟩)}]:=by rw[ofEvents_eq];simp[MemAct.ofEvent]
 rw[d];have E:¬γ.gone 0:=λh=>h.1 rfl;have F:T5 t 0=0:=(G.bC 0 G.pos E).trans z;have H:γ.gN=γ.aT:=by unfold av.gN;rw[if_pos ⟨l,o⟩]
 have v:=G.hi;rw[H]at v;have r:fy hs n γ.aT (· ∈γ.sh) ⟨γ.mu,0,o0⟩ γ.aW w (t++#[{g:=0,fn,pos,act:=.mark (.acquire ⟨γ.wg,0,o0⟩)}]):=by refine v.shared G.pos rfl (λ_ _=>rfl) λop d=> ?_;simp at d;subst d;exact⟨⟨rfl,Y,λx N=>by simp[MemAct.touch?]at N⟩,G.hi.low _ D⟩
 have u:∀i,0<i->i<n->tS (t++#[{g:=0,fn,pos,act:=.mark (.acquire ⟨γ.wg,0,o0⟩)}]) i:=λi h1 a=>by
  refine G.je.join rfl rfl F h1 a ?_;unfold av.eN;split
  .simp
  .rw[if_neg]
   .simp
   .rw[k i h1 a,G.eO i h1 (k i h1 a)];simp
 have P:=(G.kW l o).2;have Q:=r.acQ G.pos P λb hb=>r.fo.joined u (λhs=>r.ex.sB b hb hs);have I:γ.joined.gN=ae.empty:=by unfold av.gN;simp[av.joined]
 have p:∀f,γ.joined.dB f=0:=λf=>by
  show at6 γ.aG (λi=>if γ.aG<=i then f (γ.wd i)else 0)=0;have:∀m,m<=γ.aG->at6 m (λi=>if γ.aG<=i then f (γ.wd i)else 0)=0:=by
   intro m
   induction m with
   |zero=>intro _;rfl
   |succ m K=>intro X;simp only[at6];rw[K U,if_neg U]
  exact this _ (vr _)
 exact{
  aG:=G.aG
  pos:=G.pos
  n0:=⟨by show 0<γ.aG;rw[G.aG];exact G.pos,by show γ.aG<=n;rw[G.aG];exact vr _⟩
  hi:=by rw[I];exact Q.Kk
  je:=by
   refine⟨G.je.norel.app λop d=>by simp at d;subst d;simp,λi h1 a e=> ?_,λi h1 a _=>u i h1 a⟩;exfalso;have:γ.joined.eN (cA hs 0 ((hs 0).add γ.aT)) i=.jn:=by unfold av.eN;rw[if_pos (show i<γ.joined.n0 by show i<γ.aG;rw[G.aG];exact a)]
   rw[this]at e;cases e
  bC:=λj c L=>by
   have R:T5 (t++#[{g:=0,fn,pos,act:=.mark (.acquire ⟨γ.wg,0,o0⟩)}]) j=T5 t j:=by rw[aAf];simp[deafStep]
   rw[R];exact G.bC j c L
  old:=λj h1 a=>k j h1 (by have:j<γ.aG:=a;rw[G.aG]at this;exact this)
  jy:=λh=>by cases h
  jf:=λh=>by cases h
  gP:=λh=>by cases h
  ok:=G.ok
  cap:=G.cap
  out:=G.out
  cw:=G.cw
  kW:=λh=>by cases h
  full:=λi h1 a=>by have M:γ.aG<=i:=h1;rw[G.aG]at M;omega
  hB:=by
   refine⟨?_,?_⟩
   .show 0=γ.joined.dB av.iC+(if jx.eS q9=jx.eS J then 1 else 0);rw[p];simp
   .show 0=0/\0=0/\γ.joined.dB av.gO=0/\γ.joined.dB av.ic=0;rw[p,p];exact⟨rfl,rfl,rfl,rfl⟩
  eO:=λj h0 c=>by rw[gn _ _ U];exact G.eO j h0 c
  os:=G.os
  jZ:=λh=>by have:=G.j5 l;have h':γ.iB=J:=h;rw[this]at h';cases h'
  j5:=λh=>by cases h
  kq:=G.kq}
def aha{N:Nat}{I:(Nat->List cV)->ae->Prop}{full:Nat->List cV}{ms:jx}{x:Array o5}(B:jh s mu wg b0 ms 0 I full N)(W:ms=.mC\/(ms=.loop/\s.wv=0))(ba:x=#[.pointer (C ⟨wg,0,o0⟩)])
  (kk:∀γ P aT,iD γ->γ.aG=s.aG->I P aT->aT.kK->(∀i,N<=i->i<s.aG->P i=full i)->(∀b x,aT b=C x->h b=o0)->K γ (h.add aT) (.tuple #[])):
  ej pv J (SM tM tW os0 Post) 148 x s h (K:=⟨K⟩):=by
 subst ba;refine .inr (.inr λb o aA xs gH X r=>yo λa ops j rest k cs hk ha ho hw γ n af w t hr c u=>.inr ?_);subst ha;have R:=rS hr B.m.aG;have d:=B.m.rel R;have A:=(R.z rfl).2.2.1;have D:γ.ms=.mC\/(γ.ms=.loop/\γ.wv=0):=by rw[d.ms];refine W.imp_right λh=>⟨h.1,?_⟩;have:=(R.z rfl).2.2.2.1;omega
 have az:=s9 (rest:=rest) (main:=J) (b:=b) (a:=a) (k:=k) (cs:=cs) (w:=w) (v:=.tuple #[]) (w':=w) (evs:=#[⟨.mark (.acquire ⟨wg,0,o0⟩),q9,J⟩]) ho hw hk X yg.f yg.name yg.body yg.next yg.find
  (by rw[r];simp[auB,avS,auA]) (by rw[r];simp[auB,avS]) (by intro y E;simp at E;subst E;exact⟨rfl,λg h=>by cases h⟩)
 obtain⟨F,j2,H,L⟩:=c.join d.on D d.bC (B5 (b.at a (.inRegion ops (j::rest)::k)) cs).frame.fn (B5 (b.at a (.inRegion ops (j::rest)::k)) cs).frame.place;rw[d.wg,u]at L;obtain⟨Q,g2⟩:=c.kW d.on F;rw[R.I,B.I]at Q;refine⟨γ.joined,.tuple #[],w,_,h.add γ.aT,az,L,λp hj=>⟨?_,Iff.rfl⟩,λp h1 S=> ?_,?_⟩
 .by_cases a8:γ.aG<=p
  .exact .inl a8
  .have:=H p U (by rw[<- c.aG];omega);exact .inr (.inl ⟨hj,vr _,this,this⟩)
 .exfalso;have l:γ.waits p:=h1;unfold av.waits at l;split at l
  .rcases D with e|⟨e,_⟩<;>rw[e]at l<;>cases l.1
  .rw[j2 p]at l;cases l.1
 refine kk _ _ _ ⟨by show 0<γ.aG;exact d.aG,rfl,rfl,c.j5 d.on,rfl,⟨rfl,rfl,rfl⟩,d.bC⟩ A Q g2 (λi h1 S=> ?_) ?_
 .have M:i<n:=by rw[<- c.aG,A];exact S
  have h0:0<i:=by have:=c.n0.1;rw[R.n0,B.n0]at this;omega
  rw[c.full i (by rw[R.n0,B.n0];exact h1) M (by rw[H i h0 M];simp),R.full,B.full]
 .intro b x hb;cases hh:h b with
  |none=>rfl
  |some y=>
   exfalso;have hd:dX γ.gN b:=by unfold av.gN;rw[if_pos ⟨d.on,F⟩];exact⟨x,hb⟩
   rcases sZ (hs:=af) (j:=0) (b:=b) (x:=y) (by rw[u];exact hh)with q|q
   .exact c.hi.ex.mU 0 b q hd
   .exact c.hi.ex.qv 0 b q hd
end
end
noncomputable def yu:rj:=Tryz.f96.body.getD .skip
def Kn:rj:=bf yu
def Eg:rj:=bf Kn
def Ko:rj:=bf Eg
def Eh:rj:=bf Ko
def Kp:rj:=bf Eh
def Kq:rj:=bf Kp
def Ei:rj:=bf Kq
def AD:rj:=bf Ei
def Ej:rj:=bf AD
def Ek:rj:=bf Ej
def ahb:rj:=bf Ek
def Kr:rj:=bH Ek
def Sn:rj:=bf Kr
def ahc:=aF Sn (.cond _ .ret .skip) rfl
def ahd:=aF Kr (.seq (.region _ [_,_,_,_,_,_].toArray _) Sn) rfl
def ahe:=aF Ek (.seq Kr ahb) rfl
def Ks:rj:=bH Ej
def Kt:rj:=bf Ks
def ahf:rj:=bH Kt
def ahg:=aF Kt (.cond _ ahf .skip) rfl
def ahh:=aF Ks (.seq (.region _ [_,_,_,_,_,_,_,_,_,_,_,_].toArray _) Kt) rfl
def ahi:=aF Ej (.seq Ks Ek) rfl
def Ku:rj:=bH AD
def Kv:rj:=bf Ku
def ahj:rj:=bH Kv
def ahk:=aF Kv (.cond _ ahj .skip) rfl
def ahl:=aF Ku (.seq (.region _ [_,_].toArray _) Kv) rfl
def ahm:=aF AD (.seq Ku Ej) rfl
def Kw:rj:=bH Ei
def Kx:rj:=bf Kw
def So:rj:=bH Kx
def Sp:=aF So (.region _ [_,_,_,_,_].toArray _) rfl
def Sq:=aF Kx (.cond _ So .skip) rfl
def ahn:=aF Kw (.seq (.region _ [_,_,_,_,_,_,_,_,_,_].toArray _) Kx) rfl
def aho:=aF Ei (.seq Kw AD) rfl
def ahp:=aF Kq (.seq (.region _ [_,_,_,_].toArray _) Ei) rfl
def ahq:=aF Kp (.seq (.region _ [_,_,_,_].toArray _) Kq) rfl
def Ky:rj:=bH Eh
def Kz:rj:=bf Ky
def ahr:rj:=bH Kz
def ahs:=aF Kz (.cond _ ahr .skip) rfl
def aht:=aF Ky (.seq (.region _ [_,_,_,_,_,_,_].toArray _) Kz) rfl
def ahu:=aF Eh (.seq Ky Kp) rfl
def ahv:=aF Ko (.seq (.region _ [_,_,_,_,_,_,_,_].toArray _) Eh) rfl
def KA:rj:=bH Eg
def KB:rj:=bf KA
def ahw:rj:=bH KB
def ahx:=aF KB (.cond _ ahw .skip) rfl
def ahy:=aF KA (.seq (.region _ [_].toArray _) KB) rfl
def ahz:=aF Eg (.seq KA Ko) rfl
def ahA:=aF Kn (.seq (.region _ [_].toArray _) Eg) rfl
def KC:rj:=bH yu
def El:rj:=bH KC
def KD:rj:=bf El
def Sr:rj:=bf KD
def ahB:=aF Sr (.region _ [_].toArray _) rfl
def ahC:=aF KD (.seq (.region _ [_].toArray _) Sr) rfl
def KE:rj:=bH El
def KF:rj:=bf KE
def ahD:rj:=bH KF
def ahE:=aF KF (.cond _ ahD .skip) rfl
def ahF:=aF KE (.seq (.region _ [_,_].toArray _) KF) rfl
def ahG:=aF El (.seq KE KD) rfl
def ahH:=aF KC (.cond _ El .skip) rfl
def ahI:=aF yu (.seq KC Kn) rfl
def ahJ:Tryz.f96.body=C yu:=O
def ahK:fN 117 yu=J:=O
noncomputable def yv:rj:=aAg.body.getD .skip
def KG:rj:=bf yv
def KH:rj:=bH KG
def KI:rj:=bH KH
def KJ:rj:=bH KI
def KL:rj:=bf KJ
def KM:rj:=bf KL
def Em:rj:=bf KM
def KN:rj:=bf Em
def KO:rj:=bf KN
def AE:rj:=bH KO
def KP:rj:=bf AE
def En:rj:=bf KP
def KQ:rj:=bf En
def KR:rj:=bf KQ
def Eo:rj:=bf KR
def KS:rj:=bf Eo
def KT:rj:=bH KS
def KU:rj:=bf KT
def ahL:rj:=bH KU
def ahM:=aF KU (.cond _ ahL .skip) rfl
def ahN:=aF KT (.seq (.region _ [_].toArray _) KU) rfl
def ahO:=aF KS (.seq KT .ret) rfl
def Ep:rj:=bH Eo
def KV:rj:=bH Ep
def Ss:rj:=bf KV
def ahP:=aF Ss (.region _ [_,_,_].toArray _) rfl
def ahQ:=aF KV (.seq (.region _ [_].toArray _) Ss) rfl
def ahR:=aF Ep (.cond _ KV .skip) rfl
def ahS:=aF Eo (.seq Ep KS) rfl
def ahT:=aF KR (.seq (.region _ [_,_,_,_,_,_].toArray _) Eo) rfl
def ahU:=aF KQ (.seq (.region _ [_,_,_,_,_].toArray _) KR) rfl
def KW:rj:=bH En
def KX:rj:=bf KW
def ahV:rj:=bH KX
def ahW:=aF KX (.cond _ ahV .skip) rfl
def ahX:=aF KW (.seq (.region _ [_,_,_,_,_,_].toArray _) KX) rfl
def ahY:=aF En (.seq KW KQ) rfl
def ahZ:=aF KP (.seq (.region _ [_].toArray _) En) rfl
def KY:rj:=bH AE
def KZ:rj:=bf KY
def St:rj:=bH KZ
def ah0:=aF St (.region _ [_,_,_,_,_].toArray _) rfl
def ah1:=aF KZ (.cond _ St .skip) rfl
def ah2:=aF KY (.seq (.region _ [_,_,_,_].toArray _) KZ) rfl
def ah3:=aF AE (.seq KY KP) rfl
def Su:=aF KO (.cond _ AE .skip) rfl
def ah4:=aF KN (.seq (.region _ [_,_,_,_,_,_,_].toArray _) KO) rfl
def K8:rj:=bH Em
def K9:rj:=bf K8
def AF:rj:=bH K9
def La:rj:=bf AF
def Lb:rj:=bH La
def Lc:rj:=bf Lb
def ah5:rj:=bH Lc
def ah6:=aF Lc (.cond _ ah5 .skip) rfl
def ah7:=aF Lb (.seq (.region _ [_,_,_,_,_,_,_,_,_,_,_].toArray _) Lc) rfl
def ah8:=aF La (.seq Lb .ret) rfl
def Er:rj:=bH AF
def Ld:rj:=bH Er
def Sv:rj:=bf Ld
def ah9:=aF Sv (.region _ [_,_,_].toArray _) rfl
def aia:=aF Ld (.seq (.region _ [_].toArray _) Sv) rfl
def aib:=aF Er (.cond _ Ld .skip) rfl
def aic:=aF AF (.seq Er La) rfl
def aid:=aF K9 (.cond _ AF .skip) rfl
def aie:=aF K8 (.seq (.region _ [_,_].toArray _) K9) rfl
def aif:=aF Em (.seq K8 KN) rfl
def aih:=aF KM (.seq (.region _ [_,_,_,_].toArray _) Em) rfl
def aii:=aF KL (.seq (.region _ [_,_,_,_].toArray _) KM) rfl
def aij:=aF KJ (.seq (.region _ [_,_,_,_,_].toArray _) KL) rfl
def aik:=aF KI (.block _ KJ) rfl
def ail:=aF KH (.loop KI) rfl
def aim:=aF KG (.block _ KH) rfl
def Le:rj:=bH yv
def Sw:rj:=bH Le
def ain:=aF Sw (.region _ [_].toArray _) rfl
def aio:=aF Le (.cond _ Sw .skip) rfl
def aip:=aF yv (.seq Le KG) rfl
def aiq:aAg.body=C yv:=O
def air:fN 84 yv=J:=O
noncomputable def Es:rj:=Tryz.f134.body.getD .skip
def Sx:rj:=bf Es
def ais:=aF Sx (.seq (.region _ [_,_,_,_,_,_].toArray _) .ret) rfl
def ait:=aF Es (.seq (.region _ [_].toArray _) Sx) rfl
def aiu:Tryz.f134.body=C Es:=O
def aiv:fN 10 Es=J:=O
noncomputable def Et:rj:=Tryz.f136.body.getD .skip
def Sz:rj:=bf Et
def aiw:=aF Sz (.seq (.region _ [_,_,_,_,_].toArray _) .ret) rfl
def aix:=aF Et (.seq (.region _ [_].toArray _) Sz) rfl
def aiy:Tryz.f136.body=C Et:=O
def aiz:fN 7 Et=J:=O
noncomputable def Eu:rj:=Tryz.f150.body.getD .skip
def SA:rj:=bf Eu
def aiA:=aF SA (.seq (.region _ [_,_,_,_,_,_,_].toArray _) .ret) rfl
def aiB:=aF Eu (.seq (.region _ [_].toArray _) SA) rfl
def aiC:Tryz.f150.body=C Eu:=O
def aiD:fN 13 Eu=J:=O
section
open Go.ConcM (OsLater muBlock)
open Go.ConcR (wgBlock WgAt stA smA)
def aiE{P:tb}{α:Type}:∀{m:Sem α} {a:α},pL P m=C a->∀(h:ae) (Q:α->ae->Prop),aH P m h Q=Q a h:=by
 intro m
 induction m with
 |pure a=>intro b e h Q;cases e;rfl
 |program k c=>intro b e h Q;exact c P e h Q
 |_=>intro b e;cases e
def SB{n:Nat}(h:n<18446744073709551616):IntKind.u64.wrap (n:Int)=n:=by simp only[IntKind.wrap,IntKind.bits,IntKind.signed,Bool.false_and];simp;omega
def SC{n:Nat}(h:n<18446744073709551616):(BitVec.ofInt 64 (n:Int)).toNat=n:=by rw[BitVec.toNat_ofInt];simp;omega
def aiF{v c:Nat}(hc:c<2):(4294967296*v+c) &&& 2147483648=0:=by
 apply Nat.eq_of_testBit_eq;intro j;rw[Nat.testBit_and,(atz:(2147483648:Nat)=2^31),Nat.testBit_two_pow];by_cases a:j=31
 .subst a;have:=Nat.testBit_two_pow_mul_add (i:=32) v (b:=c) U 31;simp only[ax0]at this;rw[this];rcases(U:c=0\/c=1)with rfl|rfl<;>simp<;>decide
 .simp[Ne.symm a]
def aiG{v c:Nat}(hc:c<2):(4294967296*v+c) &&& 2147483647=c:=by have:=Nat.and_two_pow_sub_one_eq_mod (4294967296*v+c) 31;simp only[ax0,Nat.reduceSub]at this;rw[this];omega
section
variable{P:tb}{h:ae}{xt:ta}{x y:su}[K:KK o5]
def AG{m:Sem o5}{v:o5}(e:pL P m=C v):al P m h=K.f v h:=aiE e h K.f
def SD{n q:Nat}(a:n<18446744073709551616)(b:q<18446744073709551616):al P (bN .and xt x y (.int .u64 (n:Nat)) (.int .u64 (q:Nat))) h=K.f (.int .u64 (n &&& q:Nat)) h:=by
 have e:Op.intBits .and .u64 ((n:Nat):Int) ((q:Nat):Int)=pure (.int .u64 ((n &&& q:Nat):Int)):=by have hb:n &&& q<18446744073709551616:=Nat.lt_of_le_of_lt Nat.and_le_left a;show(pure (Value.int .u64 (IntKind.u64.wrap ((BitVec.ofInt 64 (n:Int)) &&& (BitVec.ofInt 64 (q:Int))).toNat)):Sem o5)=_;rw[BitVec.toNat_and,SC a,SC b,SB hb]
 simp[al,bN,eqGuard,binOp,aR,e]
def SE{v:Nat}(a:v<4000000):al P (bN .and xt x y (.int .u64 (4294967296*v:Nat)) (.int .u64 2147483648)) h=K.f (.int .u64 0) h:=by have:=SD (P:=P) (h:=h) (xt:=xt) (x:=x) (y:=y) (K:=K) (n:=4294967296*v) (q:=2147483648) U U;rw[show 4294967296*v &&& 2147483648=0 from aiF (c:=0) U]at this;exact this
def SF{v:Nat}(a:v<4000000):al P (bN .and xt x y (.int .u64 (4294967296*v:Nat)) (.int .u64 2147483647)) h=K.f (.int .u64 0) h:=by have:=SD (P:=P) (h:=h) (xt:=xt) (x:=x) (y:=y) (K:=K) (n:=4294967296*v) (q:=2147483647) U U;rw[show 4294967296*v &&& 2147483647=0 from aiG (c:=0) U]at this;exact this
def SG{v:Nat}(a:v<4000000):al P (bN .shr xt x y (.int .u64 (4294967296*v:Nat)) (.int .u64 32)) h=K.f (.int .u64 (v:Nat)) h:=by
 have e:Op.shift .shr .u64 ((4294967296*v:Nat):Int) .u64 32=pure (.int .u64 (v:Nat)):=by simp only[Op.shift];rw[if_neg U];simp only[(atz:min (32:Int).toNat IntKind.u64.bits=32)];rw[(atz:(2:Int)^32=4294967296),Int.fdiv_eq_ediv_of_nonneg _ U];congr 2;omega
 revert e;generalize(((4294967296*v:Nat)):Int)=z;intro e;simp[al,bN,eqGuard,binOp,aR,e]
end
section
variable{h:ae}[K:KK o5]{xt:ta}{x y:su}
omit K in
def aiH:pv.underlying 206=C (.int .u64):=O
def SH{v:Nat}(a:v<4000000):al pv (atU 206 21 (.int .u64 (v:Nat))) h=K.f (.int .i32 (v:Nat)) h:=by simp only[al,atU,aJ,c0,aiH,Rh,Conv.intToInt,aR];rw[wrap32 U]
def SI:al pv (atU 206 199 (.int .u64 0)) h=K.f (.int .u32 0) h:=AG O
def aiI:al pv (atU 3 21 (.int .i64 1)) h=K.f (.int .i32 1) h:=AG O
def aiJ:al pv (atU 3 206 (.int .i64 1)) h=K.f (.int .u64 1) h:=AG O
def aiK:al pv (bN .shl xt x y (.int .u64 1) (.int .u64 32)) h=K.f (.int .u64 4294967296) h:=AG O
def Ev{m:Nat}:al pv (at3 210 (.pointer (C ⟨m,0,o0⟩)) 1) h=K.f (.pointer (C ⟨m,0,o0⟩)) h:=m1 (ft:=208) (m:=0) (i:=1) aBP rfl rfl O
def Lf{m:Nat}:al pv (at3 210 (.pointer (C ⟨m,0,o0⟩)) 2) h=K.f (.pointer (C ⟨m,1,o0⟩)) h:=m1 (ft:=199) (m:=0) (i:=2) aBP rfl rfl O
def Lg{m:Nat}:al pv (at3 208 (.pointer (C ⟨m,0,o0⟩)) 2) h=K.f (.pointer (C ⟨m,0,o0⟩)) h:=m1 (ft:=206) (m:=0) (i:=2) Tryz.underlying208 rfl rfl O
end
section
variable{tM tW:ta}{os0:eI}{Post:o5->tg->Prop}{s γ:av}{h:ae}{K:av->ae->o5->Prop}{wg mu b0 N:Nat}{b:aS}{I:(Nat->List cV)->ae->Prop}{full:Nat->List cV}{ms:jx}{k:Nat}
def Ew{st c ty:ta}{o:Nat}(M:gM s wg mu ms k)(q:o=0\/o=1)(hs:pv.underlying st=C (.pointer ty))(hd:pv.underlying c=C .unsafePointer)(f:(pv.info? ty).map (λi=>decide (i.size=0))=C q9)(hh:h wg=o0)
  (kk:∀γ,gX s γ->gM γ wg mu ms k->γ.wv<=s.wv->K γ h (.pointer (C ⟨wg,o,o0⟩))):
  iw pv J (SM tM tW os0 Post) b st c (.pointer (C ⟨wg,o,o0⟩)) s h (K:=⟨K⟩):=by
 show if(h wg).isSome=J then _ else _
 rw[hh,if_neg Y];intro g aA y l r;refine yo λa ops j rest k cs E u x F γ n H w t A m B=>.inr ?_;subst u;have R:=rS A M.aG;have d:=M.rel R;have e:=m.jf d.on;rw[d.wg]at e;obtain⟨v,hc⟩:∃v,w.cell? ⟨wg,o,o0⟩=C v:=by
  rcases q with rfl|rfl
  .exact⟨_,(show WgAt tW wg w _ _ from e).cellSt⟩
  .exact⟨_,(show WgAt tW wg w _ _ from e).cellSm⟩
 have D:(T0 a.eval g).runT pv w #[]=(.ok (.value (.pointer (C ⟨wg,o,o0⟩))) w,#[]):=by
  rw[wb];have G:T0 a.eval g=(do pure (.value (<- atU st c (.pointer (C ⟨wg,o,o0⟩)))):Sem Next):=by unfold T0;rw[l,<- r]
  rw[G];refine Prod.ext ?_ ?_
  .simp[run_convert_to_unsafe hs hd f hc,Result.andThen]
  .simp[events_convert_to_unsafe hs hd f hc]
 have p:=sz (P:=pv) (main:=J) (rest:=rest) (k:=k) (cs:=cs) x F (by unfold kS;rw[l]) E D rfl;rw[seen_none]at p;refine⟨γ,_,w,#[],h,p,?_,λj _=>⟨.refl j γ,Iff.rfl⟩,λj a b=>absurd a b,kk γ (gX.rel R) d (R.z rfl).2.2.2.1⟩;rw[ys,<- B,pt];exact m
def aiL{main:Bool}{fnn:vb}{tmps:Array o5}{todo:List Item}{ds:List tc}{kind:CallKind}{ro:Option Nat}{cs:List Frame}{w:tg}:vx pv main (B5 ⟨fnn,tmps,todo,{target:=.fn (.func 129) #[],args:=#[]}::ds,.returning,kind,ro⟩ cs) w=.go (B5 ⟨fnn,tmps,todo,ds,.returning,kind,ro⟩ cs) w #[⟨.mark .enable,q9,J⟩]:=by
 have c:(callFunc 129 #[]).run pv w=.ok (.value (.tuple #[])) w:=by rw[run_callFunc_extern kX.f kX.name kX.body kX.next kX.find];simp[auA,Result.andThen]
 have a:seen pv fnn ((callFunc 129 #[]).events pv w #[])=#[⟨.mark .enable,q9,J⟩]:=by rw[events_callFunc_extern kX.f kX.name kX.body kX.next kX.find];have:=seen_entry (P:=pv) (f:=129) fnn (#[⟨.mark .enable,q9,J⟩]) (by intro x b;simp at b;subst b;exact⟨rfl,λg h=>by cases h⟩);simpa using this
 simp[G,vx,unwind,callDeferred,invoke,c,GStep.after]at a ⊢;exact a
def aiM{n:Nat}{f:vb}{fn:Func}{c:rj}{args:List o5}{gQ:av->ae->o5->Prop}{ms:jx}(y:ms≠.reg)(k:pv.funcs[f]? =C fn)(hb:fn.body=C c)(z:fn.ntmps=n)(A:fn.results=#[])
  (L:args.length<=n) (B:fN n c=J)
  (u:cB pv J (SM tM tW os0 Post) n (fE f) c (λx=>match x with|.ext _=>λ_ _ _ _=>False|_=>λe d s h=>d=[{target:=.fn (.func 129) #[],args:=#[]}]/\gM s wg mu ms 1/\∀γ,gX s γ->gM γ wg mu ms 0->gQ γ h (.tuple #[])) (dC args) [] s h):
  bo pv J (SM tM tW os0 Post) f args.toArray s h gQ:=by
 intro Q aK cs hc;have r:iR n ⟨args.toArray++Array.replicate (n- args.toArray.size) vk,[]⟩ (dC args):=by
  refine⟨atB,λt=> ?_⟩;simp only[dC,Array.getD_eq_getD_getElem?,List.getD_eq_getElem?_getD,Array.getElem?_append,List.size_toArray];by_cases l:t<args.length
  .simp[l]
  .simp only[l,if_false];rw[List.getElem?_eq_none U];simp only[Array.getElem?_replicate];split<;>rfl
 have e:Frame.enter pv f args.toArray .normal=(fE f).at ⟨args.toArray++Array.replicate (n- args.toArray.size) vk,[]⟩ [.code c]:=by simp[Frame.enter,aS.at,k,hb,z]
 rw[e];have o:∀todo (a:Act) (s:av) (h:ae),a.defers=[{target:=.fn (.func 129) #[],args:=#[]}]->gM s wg mu ms 1->(∀γ,gX s γ->gM γ wg mu ms 0->gQ γ h (.tuple #[]))->dv pv J (SM tM tW os0 Post) Q s h (B5 {(fE f).at a todo with mode:=.returning} (aK::cs)):=λtodo a s h hd M D=>by
  refine dv.sync ⟨rfl,rfl,λγ P N w t E j F=>.inr (.inl ?_)⟩;have R:=rS E M.aG;have g:=M.rel R;have H:=aiL (main:=J) (fnn:=f) (tmps:=a.tmps) (todo:=todo) (ds:=[]) (kind:=.normal) (ro:=o0) (cs:=aK::cs) (w:=w);have I:vx pv J (B5 {(fE f).at a todo with mode:=.returning} (aK::cs)) w=.go (B5 {(fE f).at ⟨a.tmps,[]⟩ todo with mode:=.returning} (aK::cs)) w #[⟨.mark .enable,q9,J⟩]:=by simp only[aS.at,hd];exact H
  have K:=j.gh (ms:=γ.ms) (wv:=γ.wv) (wr:=γ.wr) (ws:=γ.ws) (es:=#[⟨.mark .enable,q9,J⟩]) (w':=w) g.on (wo j.hB) rfl (λ_ _=>rfl) (j.jf g.on) (.refl _) (λe p=>by simp at p;subst p;exact .inl (.inr (.inl rfl))) (B5 {(fE f).at a todo with mode:=.returning} (aK::cs)).frame.fn (B5 {(fE f).at a todo with mode:=.returning} (aK::cs)).frame.place;have m:=g.gh (ms':=γ.ms) (wv:=γ.wv) (wr:=γ.wr) (ws:=γ.ws) (es:=#[⟨.mark .enable,q9,J⟩]) (k':=0) (by simp[A0]);refine⟨_,_,w,_,h,I,by rw[<- F,pt];exact K,RX,RY (wq (by rw[g.ms];exact y)),rfl,?_⟩;refine Oj (b:=fE f) rfl k (Post:=λh' v=>gQ _ h' v) (λh' v q=>hc _ h' v q) [] h ?_;simp only[jU,results,A,aJ];simp[aR];exact D (γ.gh γ.ms γ.wv γ.wr γ.ws #[⟨.mark .enable,q9,J⟩]) (gX.rel R).gh (by rw[g.ms]at m;rw[g.ms];exact m)
 refine xg Y (xw B r u) Q [] (aK::cs) λx a s h ⟨e,r,q⟩=> ?_;cases x with
 |ext i=>exact q.elim
 |cx=>exact .iG rfl (λw=>BI rfl) (o [] a s h q.1 q.2.1 q.2.2)
 |ret=>exactλS=>.iG rfl (λw=>BJ rfl) (o _ a s h q.1 q.2.1 q.2.2)
end
end
section
open Go.ConcM (OsLater muBlock)
open Go.ConcR (wgBlock WgAt stA smA)
section
variable{os0:eI}{Post:o5->tg->Prop}{s γ:av}{h h1:ae}{wg mu b0 N:Nat}{I:(Nat->List cV)->ae->Prop}{full:Nat->List cV}
def aiN:bz pv 134=J:=O
def SJ:bz pv 136=J:=O
def aiO:bz pv 150=J:=O
def aiP:bz pv 96=J:=O
def aiQ:bz pv 103=J:=O
def aiR(B:jh s mu wg b0 (.eS q9) 1 I full N)(b:s.aG<=N+1000000):bo pv J (SM 203 210 os0 Post) 134 #[.pointer (C ⟨wg,0,o0⟩),.int .u64 4294967296] s h
  (λa h' v=>h'=h/\jh a mu wg b0 (.eS J) 1 I full N/\a.aG=s.aG/\∃n:Nat,v=.int .u64 ((4294967296*n:Nat):Int)/\1<=n/\n<=1000001):=by
 refine bL (n:=10) (args:=[.pointer (C ⟨wg,0,o0⟩),.int .u64 4294967296]) Tryz.func134 aiu rfl Y aiv ?_;simp only[aO,vk,seval,ait,ais,dC,aut,aw6,Lg];refine agU B.m (by rw[B.n0];exact b) λγ v r M h1 c=> ?_;simp only[aO,seval];exact bu (t:=4) rfl U ⟨rfl,B.mk' r M,r.aG,v,by simp[aL],h1,c⟩
def SK(mu wg b0:Nat)(I:(Nat->List cV)->ae->Prop)(full:Nat->List cV)(N aG:Nat)(h1:ae):eM->Env->List tc->av->ae->Prop:=λx=>match x with
 | .ext _=>λ_ _ _ _=>False
 |_=>λe d s h=>d=[{target:=.fn (.func 129) #[],args:=#[]}]/\gM s wg mu (.eS J) 1/\∀γ,gX s γ->gM γ wg mu (.eS J) 0->(jh γ mu wg b0 (.eS J) 0 I full N/\γ.aG=aG/\h=h1)
def SL{e:Env}{n aG:Nat}(f:1<=n)(g:n<4000000)(B:jh s mu wg b0 (.eS J) 1 I full N)(a:s.aG=aG)(e1:e 1=.int .i64 1)(e7:e 7=.int .i32 (n:Nat))(b:e 8=.int .u32 0):cB pv J (SM 203 210 os0 Post) 117 (fE 96) AD (SK mu wg b0 I full N aG h1) e [{target:=.fn (.func 129) #[],args:=#[]}] s h1:=by
 have c:decide ((n:Int)<0)=q9:=decide_eq_false U;have d:decide (0<(n:Int))=J:=decide_eq_true U;simp only[aO,vk,seval,ahm,ahi,ahe,ahd,ahc,ahh,ahg,ahl,ahk,e7,b,c,d,bne,gt_iff_lt];exact⟨rfl,B.m,λγ r M=>⟨B.mk' r M,r.aG.trans a,rfl⟩⟩
def SN(D0:∀K:av->ae->o5->Prop,(∀γ,jh γ mu wg b0 (.eS q9) 1 I full N->γ.aG=s.aG->K γ h1 (.tuple #[]))->ej pv J (SM 203 210 os0 Post) 128 #[] s h (K:=⟨K⟩))(r:h1 wg=o0)(u:s.aG<=N+1000000):bo pv J (SM 203 210 os0 Post) 96 #[.pointer (C ⟨wg,0,o0⟩),.int .i64 1] s h (λa h' v=>jh a mu wg b0 (.eS J) 0 I full N/\a.aG=s.aG/\h'=h1):=by
 refine aiM (n:=117) (wg:=wg) (mu:=mu) (ms:=.eS J) (args:=[.pointer (C ⟨wg,0,o0⟩),.int .i64 1]) Y Tryz.func96 ahJ rfl rfl Y ahK ?_;change cB pv J (SM 203 210 os0 Post) 117 (fE 96) yu (SK mu wg b0 I full N s.aG h1) _ [] s h;simp only[aO,vk,seval,ahI,ahH,ahG,ahF,ahE,ahC,dC,aut,aw6,Int.reduceLT];refine D0 _ λγ B j=> ?_;simp only[aO,seval,ahB,ahA,ahz,ahy,ahx,Om];refine agT ?_;simp only[aO,vk,seval,ahv,dC,aut,aw6,Ev,iw.int,aiJ,aiK];refine .inl ⟨aiN,(aiR B U).mono λa h' v q=> ?_⟩;obtain⟨rfl,b,k,n,rfl,d,w⟩:=q;have e:a.aG=s.aG:=k.trans j;have c:n<4000000:=U
 simp only[aO,vk,seval,ahu,ahq,ahp,aho,ahn,aht,ahs,dC,aut,aw6,SE,SF,SG,c,iw.int,SH,SI,aiI,bne,Int.reduceLT,gt_iff_lt];cases hb:(((n:Nat):Int)==1)with
 |true=>simp only[aO,vk,seval,Sq,Sp,dC,aut,Lf];refine Ew (o:=1) b.m (.inr rfl) Sg yn Si r λx g t _=> ?_;have f:=b.mk' g t;refine Sj (o:=1) (.inl rfl) agN f.m rfl (λy i l=> ?_);have p:=f.mk' i l;simp only[aO,seval];exact SL (n:=n) d c p (i.aG.trans (g.aG.trans e)) (by simp[aL,dC]) (by simp[aL]) (by simp[aL])
 |false=>simp only[aO,seval,Sq,Sp];exact SL (n:=n) d c b e (by simp[aL,dC]) (by simp[aL]) (by simp[aL])
end
end
section
open Go.ConcM (OsLater muBlock)
open Go.ConcR (wgBlock WgAt stA smA)
section
variable{os0:eI}{Post:o5->tg->Prop}{s γ:av}{h:ae}{wg mu b0 N k aG:Nat}{I:(Nat->List cV)->ae->Prop}{full:Nat->List cV}{ms:jx}{e:Env}
def SO(B:jh s mu wg b0 ms k I full N)(b:ms≠.reg):bo pv J (SM 203 210 os0 Post) 136 #[.pointer (C ⟨wg,0,o0⟩)] s h
  (λa h' v=>h'=h/\jh a mu wg b0 ms k I full N/\a.aG=s.aG/\a.nL/\a.wv<=s.wv/\v=.int .u64 ((4294967296*a.wv+a.wr:Nat):Int)):=by
 refine bL (n:=7) (args:=[.pointer (C ⟨wg,0,o0⟩)]) Tryz.func136 aiy rfl Y aiz ?_;simp only[aO,vk,seval,aix,aiw,dC,aut,Lg];refine agV B.m b λγ r M W c=> ?_;simp only[aO,seval];exact bu (t:=2) rfl U ⟨rfl,B.mk' r M,r.aG,W,c,by simp[aL]⟩
def aiS{v:Nat}(B:jh s mu wg b0 .loop k I full N)(b:1<=v):bo pv J (SM 203 210 os0 Post) 150 #[.pointer (C ⟨wg,0,o0⟩),.int .u64 ((4294967296*v:Nat):Int),.int .u64 ((4294967296*v+1:Nat):Int)] s h
  (λa h' x=>h'=h/\a.aG=s.aG/\((x=.bool J/\jh a mu wg b0 .reg k I full N)\/(x=.bool q9/\jh a mu wg b0 .loop k I full N/\a.wv<=s.wv/\a.wv≠v))):=by
 refine bL (n:=13) (args:=[.pointer (C ⟨wg,0,o0⟩),.int .u64 ((4294967296*v:Nat):Int),.int .u64 ((4294967296*v+1:Nat):Int)]) Tryz.func150 aiC rfl Y aiD ?_;simp only[aO,vk,seval,aiB,aiA,dC,aut,aw6,Lg];refine agW B.m b (λγ r M=> ?_) (λγ r M h1 c=> ?_)
 .simp only[aO,seval];exact bu (t:=6) rfl U ⟨rfl,r.aG,.inl ⟨by simp[aL],B.mk' r M⟩⟩
 .simp only[aO,seval];exact bu (t:=6) rfl U ⟨rfl,r.aG,.inr ⟨by simp[aL],B.mk' r M,h1,c⟩⟩
def uG(I:(Nat->List cV)->ae->Prop)(full:Nat->List cV)(N aG:Nat)(h0:ae)(s:av)(h:ae)(v:o5):Prop:=∃a aT,iD s/\s.aG=aG/\I a aT/\aT.kK/\(∀i,N<=i->i<aG->a i=full i)/\h=h0.add aT/\∀b x,aT b=C x->h0 b=o0
abbrev SP(I:(Nat->List cV)->ae->Prop)(full:Nat->List cV)(N aG:Nat)(h0:ae):eM->Env->List tc->av->ae->Prop:=λx=>match x with
 | .ext _=>λ_ _ _ _=>False
 |_=>dT pv aAg (uG I full N aG h0) 84
def SQ{K:eM->Env->List tc->av->ae->Prop}{c:rj}(B:jh s mu wg b0 ms 1 I full N)(n:ms=.mC\/(ms=.loop/\s.wv=0))(hh:h wg=o0)(e0:e 0=.pointer (C ⟨wg,0,o0⟩))(hc:c=Er\/c=Ep)
  (kk:∀e' f h' v,fA 7 e e'->uG I full N s.aG h f h' v->K .cx e' [] f h'):cB pv J (SM 203 210 os0 Post) 84 (fE 103) c K e [] s h:=by
 have p:ms≠.reg:=by rcases n with rfl|⟨rfl,_⟩<;>simp
 have u:∀w,fA 7 e w->∀(γ:av),gX s γ->γ.wv<=s.wv->jh γ mu wg b0 ms 0 I full N->∀k:av->ae->o5->Prop,(∀f h' v,uG I full N s.aG h f h' v->k f h' (.tuple #[]))->ej pv J (SM 203 210 os0 Post) 148 #[.pointer (C ⟨wg,0,o0⟩)] γ h (K:=⟨k⟩):=λw _ γ r t d k y=>by
  refine aha d (n.imp_right λh=>⟨h.1,U⟩) rfl λj z aT A D E F G H=> ?_;exact y _ _ (.tuple #[]) ⟨z,aT,A,D.trans r.aG,E,F,λi a b=>G i a (by rw[r.aG];exact b),rfl,H⟩
 rcases hc with rfl|rfl
 .simp only[aO,seval,aib,aia];refine Kj (.inr rfl) kX B.m p λγ r t M=> ?_;have d:=B.mk' (k':=0) r (by simpa[A0]using M);simp only[aO,seval,ah9,e0];refine Ew (o:=0) d.m (.inl rfl) Ke yn Kg hh λj g l x=> ?_;refine u e (fA.refl _ _) j (r.trans g) U (d.mk' g l) _ λf h' v q=> ?_;exact kk _ _ _ v (by repeat (first|exact fA.refl _ _|refine fA.upd ?_ U)) q
 .simp only[aO,seval,ahR,ahQ];refine Kj (.inr rfl) kX B.m p λγ r t M=> ?_;have d:=B.mk' (k':=0) r (by simpa[A0]using M);simp only[aO,seval,ahP,e0];refine Ew (o:=0) d.m (.inl rfl) Ke yn Kg hh λj g l x=> ?_;refine u e (fA.refl _ _) j (r.trans g) U (d.mk' g l) _ λf h' v q=> ?_;exact kk _ _ _ v (by repeat (first|exact fA.refl _ _|refine fA.upd ?_ U)) q
def aiT{h:ae}[K:KK o5]{xt:ta}{x y:su}{v:Nat}(a:v<4000000):al pv (bN .add xt x y (.int .u64 (4294967296*v:Nat)) (.int .u64 1)) h=K.f (.int .u64 (4294967296*v+1:Nat)) h:=by rw[sJ,(U:((4294967296*v:Nat):Int)+1=((4294967296*v+1:Nat):Int)),SB U]
def SR{e:Env}{s:av}{h':ae}{v:o5}{n0:Nat}(q:uG I full N aG h s h' v):SP I full N aG h .ret e [] s h':=me rfl (show uG I full N aG h s h' (.tuple #[])from q)
def aiU(B:jh s mu wg b0 .loop 1 I full N)(b:s.wv=0)(hh:h wg=o0)(e0:e 0=.pointer (C ⟨wg,0,o0⟩))(e2:e 2=.int .u64 ((4294967296*0:Nat):Int))(e4:e 4=.int .u32 0)(K:eM->Env->List tc->av->ae->Prop)
  (kk:∀e' a h' v,uG I full N s.aG h a h' v->K .ret e' [] a h'):cB pv J (SM 203 210 os0 Post) 84 (fE 103) AF K e [] s h:=by
 have f:(0:Nat)<4000000:=U
 simp only[aO,seval,aic];refine SQ B (.inr ⟨rfl,b⟩) hh e0 (.inl rfl) λe' a h' v k q=> ?_;have c:e' 2=.int .u64 ((4294967296*0:Nat):Int):=by rw[k 2 U];exact e2
 have d:e' 4=.int .u32 0:=by rw[k 4 U];exact e4
 simp only[aO,seval,ah8,ah7,ah6,c,d];exact kk _ _ _ v q
def aiV{v:Nat}(B:jh s mu wg b0 .reg 1 I full N)(l:v<4000000)(hh:h wg=o0)(e0:e 0=.pointer (C ⟨wg,0,o0⟩))(e2:e 2=.int .u64 ((4294967296*v:Nat):Int))(e4:e 4=.int .u32 0)(K:eM->Env->List tc->av->ae->Prop)
  (kk:∀e' b h' v,uG I full N s.aG h b h' v->K .ret e' [] b h'):cB pv J (SM 203 210 os0 Post) 84 (fE 103) AE K e [] s h:=by
 simp only[aO,seval,ah3,ah2,ah1,ah0,e0,e4,Lf];refine Ew (o:=1) B.m (.inr rfl) Sg yn Si hh λy i w _=> ?_;have c:=B.mk' i w;refine Sj (o:=1) (.inr rfl) agO c.m rfl λz j n=> ?_;have d:=c.mk' j n;simp only[aO,vk,seval,ahZ,ahY,ahX,ahW,ahU,e0,e2,SE,l,bne,Lf];refine agX d.m rfl λA f p=> ?_;have r:=d.mk' f p;simp only[aO,seval,ahT,e0,Ev];refine .inl ⟨SJ,(SO r Y).mono λD E F q=> ?_⟩;obtain⟨rfl,g,x,t,_,rfl⟩:=q;have a:=t.st;rw[g.m.ms]at a;simp at a;rw[a.1,a.2.1,(atz:((4294967296*0+0:Nat):Int)=0)];simp only[aO,seval,ahS,bne];refine SQ g (.inl rfl) hh (by simp[aL,e0]) (.inr rfl) λe' b h' v k q=> ?_;have u:e' 6=.bool q9:=by rw[k 6 U];simp[aL]
 simp only[aO,seval,ahO,ahN,ahM,u];exact kk _ _ _ v (by rw[x,f.aG,j.aG,i.aG]at q;exact q)
def aiW(B:jh s mu wg b0 (.eS q9) 0 I full N)(z:s.aG<=N+1000000)(hh:h wg=o0):bo pv J (SM 203 210 os0 Post) 103 #[.pointer (C ⟨wg,0,o0⟩)] s h (uG I full N s.aG h):=by
 refine bL (n:=84) (args:=[.pointer (C ⟨wg,0,o0⟩)]) Tryz.func103 aiq rfl Y air ?_;change cB pv J (SM 203 210 os0 Post) 84 (fE 103) yv (SP I full N s.aG h) _ [] s h;simp only[aO,seval,aip,aio,ain];refine agS B.m λγ r M=> ?_;have t:=B.mk' r M;simp only[aO,seval,aim,ail];have u:=r.aG;refine du (λn e d a h'=>d=[]/\h'=h/\e 0=.pointer (C ⟨wg,0,o0⟩)/\jh a mu wg b0 .loop 1 I full N/\a.aG=s.aG/\n=a.wv) (λn e d a h' Jz=> ?_) (m:=γ.wv) ⟨rfl,rfl,by simp[aL,dC],t,u,rfl⟩;obtain⟨rfl,rfl,e0,w,k,rfl⟩:=Jz;simp only[aO,seval,aik,aij,e0,Ev];refine .inl ⟨SJ,(SO w Y).mono λfe F G q=> ?_⟩;obtain⟨rfl,b,cQ,l,A,rfl⟩:=q;have j:=l.st;have o:=l.v;rw[b.m.ms]at j o;simp at j o;have D:=b.n0;have hb:=Ki fe (f:=av.iC) (by intro d;cases d<;>simp[av.iC]);have c:fe.wv<4000000:=U
 rw[j.1,(U:4294967296*fe.wv+0=4294967296*fe.wv)];simp only[aO,seval,aii,aih,aif,aie,aid,SF,SG,c,iw.int,SH,SI];cases p:(((fe.wv:Nat):Int)==0)with
 |true=>
  have g:fe.wv=0:=by simpa using p
  simp only[aO,seval];refine aiU b g hh (by simp[aL,e0]) (by simp[aL,g]) (by simp[aL]) _ λy a h' v q=> ?_;rw[cQ,k]at q;exact SR (n0:=0) q
 |false=>
  have g:fe.wv≠0:=by simpa using p
  simp only[aO,seval,ah4,e0,aiT,c,Ev];refine .inl ⟨aiO,(aiS b U).mono λx H K q=> ?_⟩;obtain⟨rfl,n4,⟨rfl,i⟩|⟨rfl,i,L,E⟩⟩:=q
  .simp only[aO,seval,Su];refine aiV (v:=fe.wv) i c hh (by simp[aL,e0]) (by simp[aL]) (by simp[aL]) _ λy a h' v q=> ?_;rw[n4,cQ,k]at q;exact SR (n0:=0) q
  .simp only[aO,seval,Su];exact⟨x.wv,U,by first|rfl|trivial,by first|rfl|trivial,by simp[e0],i,U,rfl⟩
end
end
section
variable{tM tW:ta}{os0:eI}{Post:o5->tg->Prop}{i:Nat}{aP s:av}{h:ae}
def SS{f:vb}{args:Array o5}{gQ:av->ae->o5->Prop}(W:lJ i s)(u:h s.mu=o0->h s.wg=o0->bo pv q9 (dY tM tW os0 Post i) f args s h gQ):bo pv q9 (dY tM tW os0 Post i) f args s h gQ:=by
 by_cases d:h s.mu=o0/\h s.wg=o0
 .exact u d.1 d.2
 intro Q c cs k;refine dv.sync ⟨rfl,rfl,λγ n hs w t g G hi l e=>absurd ?_ d⟩;have a:=g.s W.aG l;obtain⟨o,m,r⟩:=G.gP (a.on.trans W.on);have no:∀b,b∈γ.sh->h b=o0:=λb hb=>by
  cases p:h b with
  |none=>rfl
  |some x=>
   exfalso;rcases sZ (hs:=hs) (j:=i) (b:=b) (x:=x) (by rw[e];exact p)with q|q
   .exact G.hi.ex.ownSh i b q hb
   .exact G.hi.ex.nt i b q hb
 exact⟨no _ (by rw[<- a.mu];exact o),no _ (by rw[<- a.wg];exact m)⟩
def Lh{f:vb}{args:Array o5}{gQ:av->ae->o5->Prop}(g:0<s.aG)(i:s.on=J)(u:h s.mu=o0->h s.wg=o0->bo pv J (SM tM tW os0 Post) f args s h gQ):bo pv J (SM tM tW os0 Post) f args s h gQ:=by
 by_cases d:h s.mu=o0/\h s.wg=o0
 .exact u d.1 d.2
 intro Q c cs k;refine dv.sync ⟨rfl,rfl,λγ n hs w t l G e=>absurd ?_ d⟩;have a:=rS l g;obtain⟨o,m,r⟩:=G.gP (a.on.trans i);have no:∀b,b∈γ.sh->h b=o0:=λb hb=>by
  cases p:h b with
  |none=>rfl
  |some x=>
   exfalso;rcases sZ (hs:=hs) (j:=0) (b:=b) (x:=x) (by rw[e];exact p)with q|q
   .exact G.hi.ex.ownSh 0 b q hb
   .exact G.hi.ex.nt 0 b q hb
 exact⟨no _ (by rw[<- a.mu];exact o),no _ (by rw[<- a.wg];exact m)⟩
end
section
variable{P:tb}{main:Bool}{ai:Type}{S:Sys ai}{b:aS}{s:ai}{h:ae}
def Ex{t:ta}{b0:Nat}{v0 v1:o5}{ty:ta}{aK:Nat×Nat}{own:Bool}(a:fS P t=C (C 2))(hb:h b0=C ⟨.cells #[v0,v1] ty aK,own⟩)[K:hA ai]:eX P main S b t (.pointer (C ⟨b0,0,o0⟩)) s h=K.f s h (.agg #[v0,v1]):=by
 have c:h.cell? ⟨b0,0,o0⟩=C v0:=by simp[ae.cell?,hb]
 have c1:h.cell? ⟨b0,1,o0⟩=C v1:=by simp[ae.cell?,hb]
 rw[ua (K:=K) (A:=⟨b0,0,o0⟩) hb,zO (K:=⟨λv h=>K.f s h v⟩) a,pG,pG,zQ];simp only[Nat.add_zero,Nat.zero_add,c,c1,Cg];rfl
def lN{b0:Nat}{x:dL}(hb:h b0=C x):h.put b0 x=h:=by
 funext c;unfold ae.put;split
 .rename_i e;subst e;exact hb.symm
 .rfl
def Li{t:ta}{b0:Nat}{a:Option Addr}{n c:Nat}{m:Int}{b d:o5}{ty:ta}(hs:cu P t=C 2)(hb:h b0=C ⟨.cells #[b,d] ty (0,0),J⟩)(K:ae->Prop):al P (aub t (.pointer (C ⟨b0,0,o0⟩)) (.agg #[.slice a n c,.int .i64 m])) h (K:=⟨λ_=>K⟩)=K (h.put b0 ⟨.cells #[.slice a n c,.int .i64 m] ty (0,0),J⟩):=by
 have e:=lN hb;have key:al P (aub t (.pointer (C ⟨b0,0,o0⟩)) (.agg #[.slice a n c,.int .i64 m])) (h.put b0 ⟨.cells #[b,d] ty (0,0),J⟩) (K:=⟨λ_=>K⟩)=K (h.put b0 ⟨.cells #[.slice a n c,.int .i64 m] ty (0,0),J⟩):=by rw[xE (K:=⟨_⟩) hs,(atz:((Value.agg #[.slice a n c,.int .i64 m]).cells.size==2)=J),show(Value.agg #[.slice a n c,.int .i64 m]).cells.toList=[.slice a n c,.int .i64 m]from rfl,xF,xF];simp only[zP];exact propext ⟨λq=>q.2.2,λq=>⟨rfl,rfl,q⟩⟩
 rw[e]at key;exact key
def nN{t:ta}{b0:Nat}{k:Bool}{a:o5}{ty:ta}(hs:cu P t=C 1)(hb:h b0=C ⟨.cells #[a] ty (0,0),J⟩)(K:ae->Prop):al P (aub t (.pointer (C ⟨b0,0,o0⟩)) (.bool k)) h (K:=⟨λ_=>K⟩)=K (h.put b0 ⟨.cells #[.bool k] ty (0,0),J⟩):=by
 have e:=lN hb;have key:al P (aub t (.pointer (C ⟨b0,0,o0⟩)) (.bool k)) (h.put b0 ⟨.cells #[a] ty (0,0),J⟩) (K:=⟨λ_=>K⟩)=K (h.put b0 ⟨.cells #[.bool k] ty (0,0),J⟩):=by rw[xE (K:=⟨_⟩) hs,(atz:((Value.bool k).cells.size==1)=J),show(Value.bool k).cells.toList=[.bool k]from rfl,xF];simp only[zP];exact propext ⟨λq=>q.2,λq=>⟨rfl,q⟩⟩
 rw[e]at key;exact key
def aiX{a b:o5}{h:ae}[K:KK o5]:al P (avo (.tuple #[a,b]) 0) h=K.f a h:=by rw[dg];rfl
def aiY{b a:o5}{h:ae}[K:KK o5]:al P (avo (.tuple #[b,a]) 1) h=K.f a h:=by rw[dg];rfl
end
def aiZ:fS pv 135=C o0:=O
def Lj:fS pv 4=C o0:=O
def AH:fS pv 131=C (C 2):=O
def Lk:cu pv 131=C 2:=O
def SU:cu pv 4=C 1:=O
def Ll:fw pv 131=C (.agg #[.slice o0 0 0,.int .i64 0]):=O
def ai0{h:ae}{a:Option Addr}{n c:Nat}{m:Int}[K:KK o5]:al pv (Instr.build 131 #[(0,.slice a n c),(1,.int .i64 m)]) h=K.f (.agg #[.slice a n c,.int .i64 m]) h:=AG O
structure uH(main:Bool){ai:Type}(Sy:Sys ai)(B:ae->Prop)(fC:vb)(fF:Array o5)(nf:bX->bX->Int)(gf:bX->bX->Bool):Prop where
 ck:bz pv fC=J
 le:∀h h',B h->h.ar h'->B h'
 AI:∀(h:ae) l L o x,B h->h l=C ⟨.loop L,o⟩->B (h.put l x)
 call:∀s h h0 p k a b o,B h0->h0 p=o0->B h->a∈dm->b∈dm->iA h p k [a,b] o->bo pv main Sy fC (#[]++#[.slice (C ⟨p,0,o0⟩) 2 k]++fF) s h λaj h' v=>aj=s/\h.ar h'/\v=.tuple #[.int .i64 (nf a b),.bool (gf a b)]
structure ai1(h:ae)(bB fb bb ts l:Nat)(fC:vb)(fF:Array o5)(L:Loop)(e0:Env):Prop where
 AI:h l=C ⟨.loop L,J⟩
 st:L.state=.ready
 yw:L.pending=o0
 fn:L.fn=97
 pa:L.params=#[16]
 as_:L.assign=Ag
 ai2:L.body=xY
 rel:iR 38 ⟨L.tmps,[]⟩ e0
 e4:e0 4=aY ts
 e5:e0 5=aY bB
 e6:e0 6=aY fb
 e7:e0 7=aY bb
 Lm:∃o,h ts=C ⟨.cells #[.func (.func fC) #[] fF] 135 (0,0),o⟩
section
variable{tM tW:ta}{os0:eI}{Post:o5->tg->Prop}{i:Nat}{aP s:av}{h:ae}{bd bB fb bb ts l:Nat}{fC:vb}{fF:Array o5}{L:Loop}{e0:Env}{nf:bX->bX->Int}{gf:bX->bX->Bool}{B:ae->Prop}{g:List cV}
abbrev Ey(Zz:av->Prop)(h1:ae)(a l:Nat):eM->Env->List tc->av->ae->Prop:=λx e d s h=>aH pv (ave l (xr x)) h λv h'=>Zz s/\(∀b x,b≠a->h1 b=C x->h' b=C x)/\v=.bool J
def SV{h:Nat}{h1 h6 gd':ae}{mg':Nat->List cV}{e:Env}{Zz:av->Prop}(k:aP.mu=bB)(c:dI i aP s .own 0 bd J g)(e5:e 5=aY bB)(m:h1 l=C ⟨.loop L,J⟩)(st:L.state=.ready)(E:L.pending=o0)
  (n:s.I mg' gd') (o:∀j,j≠i->mg' j=s.cN j) (p:∀b x,gd' b=C x->h6 b=C x) (z:gd'.kK)
  (A:gd' l=o0) (r:h6 l=C ⟨.loop {L with state:=.busy},J⟩) (B:∀b x,b≠h->b≠l->h1 b=C x->h6 b=C x/\gd' b=o0) (t:∀d,dI i aP d .out 0 bd q9 (mg' i)->Zz d):
  cB pv q9 (dY tM tW os0 Post i) 38 ⟨97,.normal,C l⟩ C1 (lV 1 (Ey Zz h1 h l)) e [] s h6:=by
 simp only[aO,seval,abR,e5];refine .inl ⟨afX,SS c.w λD _=>(agc k (by rw[<- k,<- c.cP.mu];exact D) c n o p z).mono λd h' v q=> ?_⟩;obtain⟨u,rfl⟩:=q;simp only[aO,seval];have y:(h6.del gd') l=C ⟨.loop {L with state:=.busy},J⟩:=by unfold ae.del;rw[A];exact r
 show aH pv (ave l o0) (h6.del gd') _;rw[DS y];refine⟨t _ u,λb x hb f=> ?_,rfl⟩;by_cases a:b=l
 .subst a;rw[m]at f;cases f;rw[cI,show({({L with state:=.busy}:Loop)with state:=.ready,pending:=o0}:Loop)=L by obtain⟨⟩:=L;simp_all]
 .rw[bx a];obtain⟨da,dQ⟩:=B b x hb a f;unfold ae.del;rw[dQ];exact da
end
section
variable{tM tW:ta}{os0:eI}{Post:o5->tg->Prop}{i:Nat}{aP s:av}{h:ae}{bd bB fb bb ts l:Nat}{fC:vb}{fF:Array o5}{L:Loop}{e0:Env}{nf:bX->bX->Int}{gf:bX->bX->Bool}{B:ae->Prop}{g:List cV}
def ai3{a b:bX}{d k':Nat}{n:Int}{h1 v:ae}{e:Env}{Zz:av->Prop}(E:a∈dm)(hb:b∈dm)(X:aP.mu=bB)(hI:aP.I=pK aP.n0 fb bb)(ad:fb≠bb)(bt:dI i aP s .out 0 (bd+1) q9 g)
  (e5:e 5=aY bB) (e6:e 6=aY fb) (e7:e 7=aY bb) (e8:e 8=.slice (C ⟨d,0,o0⟩) 2 k') (e9:e 9=.int .i64 n) (b4:h1 l=C ⟨.loop L,J⟩) (st:L.state=.ready) (dS:L.pending=o0)
  (F:v l=C ⟨.loop {L with state:=.busy},J⟩) (hp:iA v d k' [a,b] J) (fa:∀b x,b≠l->h1 b=C x->v b=C x)
  (hZ:∀aj,dI i aP aj .out 0 bd q9 (g++[(n,[a,b])])->Zz aj):
  cB pv q9 (dY tM tW os0 Post i) 38 ⟨97,.normal,C l⟩ CZ (lV 1 (Ey Zz h1 d l)) e [] s v:=by
 have eh:d≠l:=λe=>by obtain⟨arr,rest,q,_⟩:=hp;subst e;rw[F]at q;cases q
 simp only[aO,seval,abV,e5];refine .inl ⟨afW,SS bt.w λhh _=>(afZ X (by rw[<- X,<- bt.cP.mu];exact hh) bt).mono λh r v4 q=> ?_⟩;obtain⟨aT,p,I4,fl,rfl,G⟩:=q;have I5:pK aP.n0 fb bb h.cN aT:=by rw[p.cP.I,hI]at I4;exact I4
 have ek:uC fb bb h.cN aT:=I5.1;have out:∀j,(j<aP.n0\/aP.n0+8<=j)->mD h.cN i (n,[a,b]) j=[]:=λj hj=>by have h1:=p.w.n0;have h2:=p.cap;have v:=p.df;have r:=p.cP.n0;unfold mD;rw[if_neg U];exact I5.2 j hj
 simp only[aO,seval,abU,abT,e8,e9,ai0];rw[vX (K:=⟨_⟩) Ll];intro c1 H;have ec:(Value.agg #[.slice o0 0 0,.int .i64 0]).cells=#[.slice o0 0 0,.int .i64 0]:=rfl;rw[ec];generalize b8:v.add aT=r at H ⊢;have a3:∀b x,v b=C x->r b=C x:=λb x f=>by rw[<- b8];unfold ae.add;rw[f]
 have ag:∀b x,aT b=C x->r b=C x:=λb x f=>by rw[<- b8];unfold ae.add;rw[G b x f];exact f
 have eo:∀K:ae->Prop,al pv (aub 131 (.pointer (C ⟨c1,0,o0⟩)) (.agg #[.slice (C ⟨d,0,o0⟩) 2 k',.int .i64 n])) (r.put c1 ⟨.cells #[.slice o0 0 0,.int .i64 0] 131,J⟩) (K:=⟨λ_=>K⟩)=K ((r.put c1 ⟨.cells #[.slice o0 0 0,.int .i64 0] 131,J⟩).put c1 ⟨.cells #[.slice (C ⟨d,0,o0⟩) 2 k',.int .i64 n] 131 (0,0),J⟩):=λK=>Li Lk cI K;simp only[aO,seval,eo,oS];generalize b9:r.put c1 ⟨.cells #[.slice (C ⟨d,0,o0⟩) 2 k',.int .i64 n] 131 (0,0),J⟩=h5;have M:r.ar h5:=by rw[<- b9];exact gW H
 have ca:h5 c1=C ⟨.cells #[.slice (C ⟨d,0,o0⟩) 2 k',.int .i64 n] 131 (0,0),J⟩:=by rw[<- b9,cI]
 have ep:∀(b:aS) (K:av->ae->o5->Prop),@eX pv q9 _ (dY tM tW os0 Post i) b 131 (.pointer (C ⟨c1,0,o0⟩)) h h5 ⟨K⟩=K h h5 (.agg #[.slice (C ⟨d,0,o0⟩) 2 k',.int .i64 n]):=λb K=>Ex (K:=⟨K⟩) AH ca;have cb:iA h5 d k' [a,b] J:=by obtain⟨arr,rest,q1,q2⟩:=hp;exact⟨arr,rest,M _ _ (a3 _ _ q1),q2⟩
 have cc:h5 l=C ⟨.loop {L with state:=.busy},J⟩:=M _ _ (a3 _ _ F);have a8:∀b x,b≠l->h1 b=C x->h5 b=C x/\aT b=o0:=λb x B f=>by
  have q:=fa b x B f;refine⟨M _ _ (a3 _ _ q),?_⟩;cases D:aT b with
  |none=>rfl
  |some y=>rw[G b y D]at q;cases q
 have ba:aT l=o0:=by
  cases D:aT l with
  |none=>rfl
  |some y=>rw[G l y D]at F;cases F
 have bh:aT d=o0:=by
  cases D:aT d with
  |none=>rfl
  |some y=>obtain⟨arr,rest,q,_⟩:=hp;rw[G d y D]at q;cases q
 have z:∀b x,aT b=C x->h5 b=C x:=λb x f=>M _ _ (ag b x f);have er:(mD h.cN i (n,[a,b])) i=g++[(n,[a,b])]:=by unfold mD;rw[if_pos rfl,p.cN]
 have cl:∀j,j≠i->(mD h.cN i (n,[a,b])) j=h.cN j:=λj hj=>by unfold mD;rw[if_neg hj]
 have cm:∀aj,dI i aP aj .out 0 bd q9 ((mD h.cN i (n,[a,b])) i)->Zz aj:=λaj hc=>hZ aj (by rw[<- er];exact hc);have better:∀(h6:ae),h5.ar h6->∀(e:Env) (x0 x1 y0:o5),e 5=aY bB->e 6=aY fb->e 7=aY bb->e 11=aY c1->e 35=.bool J->aT bb=C ⟨.cells #[x0,x1] 131 (0,0),J⟩->aT fb=C ⟨.cells #[y0] 4 (0,0),J⟩->(∀j,∀bJ∈h.cN j,key (n,[a,b])<=key bJ)->cB pv q9 (dY tM tW os0 Post i) 38 ⟨97,.normal,C l⟩ C2 (sF (cB pv q9 (dY tM tW os0 Post i) 38 ⟨97,.normal,C l⟩ C1 (lV 1 (Ey Zz h1 d l))) (lV 1 (Ey Zz h1 d l))) e [] h h6:=λh6 o e x0 x1 y0 e5 e6 e7 et eu m gf N=>by
  have lb:h6 bb=C ⟨.cells #[x0,x1] 131 (0,0),J⟩:=o _ _ (z _ _ m);have ey:∀(b:aS) (K:av->ae->o5->Prop),@eX pv q9 _ (dY tM tW os0 Post i) b 131 (.pointer (C ⟨c1,0,o0⟩)) h h6 ⟨K⟩=K h h6 (.agg #[.slice (C ⟨d,0,o0⟩) 2 k',.int .i64 n]):=λb K=>Ex (K:=⟨K⟩) AH (o _ _ ca);have fs:c1≠bb:=λe=>by subst e;rw[ag _ _ m]at H;cases H
  have lf:(h6.put bb ⟨.cells #[.slice (C ⟨d,0,o0⟩) 2 k',.int .i64 n] 131 (0,0),J⟩) fb=C ⟨.cells #[y0] 4 (0,0),J⟩:=by rw[bx ad];exact o _ _ (z _ _ gf)
  have sb:∀K:ae->Prop,al pv (aub 131 (.pointer (C ⟨bb,0,o0⟩)) (.agg #[.slice (C ⟨d,0,o0⟩) 2 k',.int .i64 n])) h6 (K:=⟨λ_=>K⟩)=K (h6.put bb ⟨.cells #[.slice (C ⟨d,0,o0⟩) 2 k',.int .i64 n] 131 (0,0),J⟩):=λK=>Li Lk lb K;have sf:=λK:ae->Prop=>nN (P:=pv) (t:=4) (k:=J) SU lf K;simp only[aO,seval,PK,abS,e6,e7,et,eu,aY,ey,sb,sf];obtain⟨arr,rest,q1,q2,q3⟩:=cb;have eG:d≠fb:=λe=>by subst e;rw[bh]at gf;cases gf
  have eL:d≠bb:=λe=>by subst e;rw[bh]at m;cases m
  have cp:l≠fb:=λe=>by subst e;rw[ba]at gf;cases gf
  have cM:l≠bb:=λe=>by subst e;rw[ba]at m;cases m
  have gI:h.I (mD h.cN i (n,[a,b])) (iV fb bb d k' n arr):=by rw[p.cP.I,hI];exact⟨uC.better E hb N eG eL q2 q3,out⟩
  refine SV (gd':=iV fb bb d k' n arr) (L:=L) X p (by simp[aL,e5,aY]) b4 st dS gI cl (λb x f=> ?_) (Rr _ _ _ _ _ _) ?_ ?_ (λb x c6 B f=> ?_) cm
  .unfold iV at f;split at f
   .rename_i e;subst e;cases f;exact cI
   .rename_i bK;rw[bx bK];split at f
    .rename_i e;subst e;cases f;exact cI
    .rename_i bR;rw[bx bR];split at f
     .rename_i e;subst e;cases f;exact o _ _ q1
     .cases f
  .unfold iV;rw[if_neg cp,if_neg cM,if_neg (Ne.symm eh)]
  .rw[bx cp,bx cM];exact o _ _ cc
  .obtain⟨da,dQ⟩:=a8 b x B f;have dd:b≠fb:=λe=>by subst e;rw[dQ]at gf;cases gf
   have de:b≠bb:=λe=>by subst e;rw[dQ]at m;cases m
   rw[bx dd,bx de];exact⟨o _ _ da,by unfold iV;rw[if_neg dd,if_neg de,if_neg c6]⟩
 rcases ek with⟨eT,rfl⟩|⟨i0,c,a0,b0,p0,k0,u,e0,e1,ds,Q,R,N,bK,bR,dt,dx,rfl⟩
 ·
  have gf:ks fb bb fb=C ⟨.cells #[.bool q9] 4 (0,0),J⟩:=by unfold ks;rw[if_pos rfl]
  have m:ks fb bb bb=C ⟨.cells #[.slice o0 0 0,.int .i64 0] 131 (0,0),J⟩:=by unfold ks;rw[if_neg (Ne.symm ad),if_pos rfl]
  have bp:∀(b:aS) (K:av->ae->o5->Prop),@eX pv q9 _ (dY tM tW os0 Post i) b 4 (.pointer (C ⟨fb,0,o0⟩)) h h5 ⟨K⟩=K h h5 (.bool q9):=λb K=>jK (K:=⟨K⟩) Lj (A:=⟨fb,0,o0⟩) (z _ _ gf) rfl rfl;simp only[aO,vk,seval,PL,e6,aY,bp];refine better h5 (Zv _) _ _ _ _ ?_ ?_ ?_ ?_ ?_ m gf λj bJ S=> ?_
  .simp[aL,e5]
  .simp[aL,e6]
  .simp[aL,e7]
  .simp[aL,aY]
  .simp[aL]
  .rw[eT j]at S;cases S
 ·
  have gf:iV fb bb p0 k0 c.1 u fb=C ⟨.cells #[.bool J] 4 (0,0),J⟩:=by unfold iV;rw[if_pos rfl]
  have m:iV fb bb p0 k0 c.1 u bb=C ⟨.cells #[.slice (C ⟨p0,0,o0⟩) 2 k0,.int .i64 c.1] 131 (0,0),J⟩:=by unfold iV;rw[if_neg (Ne.symm ad),if_pos rfl]
  have gp:iV fb bb p0 k0 c.1 u p0=C ⟨.cells u 57 (0,0),J⟩:=by unfold iV;rw[if_neg bK,if_neg bR,if_pos rfl]
  have e2:d≠p0:=λe=>by subst e;rw[bh]at gp;cases gp
  have bp:∀(b:aS) (K:av->ae->o5->Prop),@eX pv q9 _ (dY tM tW os0 Post i) b 4 (.pointer (C ⟨fb,0,o0⟩)) h h5 ⟨K⟩=K h h5 (.bool J):=λb K=>jK (K:=⟨K⟩) Lj (A:=⟨fb,0,o0⟩) (z _ _ gf) rfl rfl;have e3:∀(b:aS) (K:av->ae->o5->Prop),@eX pv q9 _ (dY tM tW os0 Post i) b 131 (.pointer (C ⟨bb,0,o0⟩)) h h5 ⟨K⟩=K h h5 (.agg #[.slice (C ⟨p0,0,o0⟩) 2 k0,.int .i64 c.1]):=λb K=>Ex (K:=⟨K⟩) AH (z _ _ m);have e4:iA h5 p0 k0 [a0,b0] J:=⟨u,e0,z _ _ gp,dt,dx⟩;have eb:=ae3 (main:=q9) (Sy:=dY tM tW os0 Post i) (s:=h) (n:=n) (n':=c.1) E hb Q R e2 cb e4;simp only[yi]at eb;have ck:key c=key (c.1,[a0,b0]):=by rw[<- ds]
  simp only[aO,seval,PL,e6,e7,aY,bp,ep,e3];refine .inl ⟨ae2,eb.mono λs6 h6 v6 q=> ?_⟩;obtain⟨rfl,o,rfl⟩:=q;by_cases W:n<c.1\/(n=c.1/\uA a b a0 b0<0)
  .rw[decide_eq_true W];simp only[aO,seval];refine better h6 o _ _ _ _ ?_ ?_ ?_ ?_ ?_ m gf λj bJ S=> ?_
   .simp[aL,e5]
   .simp[aL,e6]
   .simp[aL,e7]
   .simp[aL,aY]
   .simp[aL]
   .have h1:=(Rp E hb Q R).1 W;rw[<- ck]at h1;exact Int.le_of_lt (Int.lt_of_lt_of_le h1 (N j bJ S))
  .rw[decide_eq_false W];have fg:key c<=key (n,[a,b]):=by have h1:=mt (Rp (n:=n) (n':=c.1) E hb Q R).2 W;rw[<- ck]at h1;exact Int.not_lt.1 h1
   simp only[aO,seval,PK];have gI:s6.I (mD s6.cN i (n,[a,b])) (iV fb bb p0 k0 c.1 u):=by rw[p.cP.I,hI];exact⟨uC.same e1 ds Q R N fg bK bR dt dx,out⟩
   exact SV (gd':=iV fb bb p0 k0 c.1 u) (L:=L) X p (by simp[aL,e5,aY]) b4 st dS gI cl (λb x f=>o _ _ (z b x f)) (Rr _ _ _ _ _ _) ba (o _ _ cc) (λb x c6 B f=>⟨o _ _ (a8 b x B f).1,(a8 b x B f).2⟩) cm
end
end
end Go.Nk
