/- Part Pao of the proof of ButtTexts: lemmas. -/
import Derived.Test.YthgephlghkjiaaaGreatDoorPan
set_option maxRecDepth 100000
set_option maxHeartbeats 4000000
set_option linter.all false
namespace Go.Nk
noncomputable section
open Go Go.Conc Go.Proofs
open _root_.Array renaming getElem?_push->awL
open Bool renaming true->J,false->q9
open Go renaming Event->R1,deafBehind->A0,Program->tb,TypeId->ta,Value->o5,World->tg,Trace->N1,FuncId->vb,Goroutine->B6,Oper->sa,Item->R8,Frame->vH,yielded->auq,stepG->vx,execOp->T0,run_store->awg,events_load->axw
open Go.Conc renaming ofEvents_eq->auy,G->B5,semEvents->atL,aside_setCell->au3,semEvents_sync->ayW,casT_eq->awF
open Go.ConcN renaming upd->at7,sumTo->at6,upd_ne->auc,upd_same->atY
open Go.Extern.Atomic renaming update->axZ,casT->azX,read->awI
open Go.Extern.Race renaming marked->auB,none_->auA,at_->avS
open Go.Extern.Sync renaming semrelease->aw2,count->avR,none_->ayX,semacquire->awf
open Go.MemAct renaming ofEvent->Zs,touch?->at2
open Go.MemOp renaming ofEvents->T1
open Go.Proofs.Tryz renaming prog->pv
open Go.Region renaming wanted->R9
open Go.Result renaming andThen->ava,evThen->axY
open Nat renaming le_refl->vr,lt_of_lt_of_le->auj
open Option renaming some->C,none->o0
open Option.some renaming injEq->W6
section
open Go.ConcM (OsLater muBlock)
open Go.ConcR (wgBlock)
def av.fT(γ:av)(i:Nat)(d:WD)(wv wr ws:Nat)(es:Array R1):av:= {γ with wd:=at7 γ.wd i d,wv:=wv,wr:=wr,ws:=ws,bC:=at7 γ.bC i (A0 (γ.bC i) es)}
section
variable{P:tb}{tM tW:ta}{os0:eI}{Post:o5->tg->Prop}{γ:av}{n i:Nat}{hs:Nat->ae}{w w':tg}{t:N1}{es:Array R1}{d:WD}{wv wr ws:Nat}
def Ea(γ:av)(f:WD->Nat)(hi:i<γ.aG)(a:γ.n0<=i):(γ.fT i d wv wr ws es).dB f+f (γ.wd i)=γ.dB f+f d:=by
 have:=Go.ConcN.sumTo_upd (λj=>if γ.n0<=j then f (γ.wd j)else 0) (f d) id hi;have e:(λj=>if γ.n0<=j then f (at7 γ.wd i d j)else 0)=λj=>id (at7 (λj=>if γ.n0<=j then f (γ.wd j)else 0) i (f d) j):=by
  funext j;by_cases b:j=i
  .subst b;simp[at7,a]
  .simp[at7,b]
 show at6 γ.aG (λj=>if γ.n0<=j then f (at7 γ.wd i d j)else 0)+_=_;rw[e];simpa[a,av.dB]using this
def c8.fT(G:c8 tM tW os0 γ n hs w t)(h0:0<i)(hi:i<n)(g:γ.on=J)(I:γ.n0<=i)(k:γ.wd i≠.wk)(s:γ.wd i≠.eO)(hd:d≠.wk)(o:hs i=ae.empty)(H:(γ.fT i d wv wr ws es).nL)
  (u:w'.heap.size=w.heap.size) (hb:∀b,b≠γ.wg->w'.heap[b]? =w.heap[b]?) (v:w'.heap[γ.wg]? =C (wgBlock tW (4294967296*wv+wr:Nat) ws)) (x:mB w w')
  (p:∀j e,es[j]? =C e->wa γ e/\((Zs e).touch? =o0\/0<A0 (γ.bC i) (es.extract 0 j))) (fn:vb) (pos:String):
  c8 tM tW os0 (γ.fT i d wv wr ws es) n hs w' (t++T1 i fn pos es)/\Deaf (t++T1 i fn pos es) i=A0 (γ.bC i) es:=by
 obtain⟨K,y,z⟩:=G.gP g;have l:¬γ.gone i:=λh=>s h.2;obtain⟨bM,bE,m⟩:=G.book hi l u (λb A=>hb b λe=>A (by rw[e];exact y)) (es:=es) (λj e q=>⟨(p j e q).1,(p j e q).2.imp id λh _ _=>h⟩) fn pos;have B:=G.out i (.inr (.inr k));have f:∀j,j≠i->(γ.fT i d wv wr ws es).wd j=γ.wd j:=λj a=>auc _ _ a;have D:(γ.fT i d wv wr ws es).wd i=d:=atY _ _ _;refine⟨{
  aG:=G.aG
  pos:=G.pos
  n0:=G.n0
  hi:=bM
  je:= ?_
  bC:=λj a E=> ?_
  old:=λj h1 c=> ?_
  jy:=λ_=>by rw[(atz:(γ.fT i d wv wr ws es).mu=γ.mu),hb _ z];exact G.jy g
  jf:=λ_=>v
  gP:=G.gP
  ok:=G.ok
  cap:=G.cap
  out:=λj a=> ?_
  cw:=G.cw
  kW:=G.kW
  full:=λj h1 c r=> ?_
  hB:=H
  eO:=λj h1 c=> ?_
  os:=G.os.trans x
  jZ:=λh=>by have:=G.j5 g;rw[(atz:(γ.fT i d wv wr ws es).iB=γ.iB),this]at h;cases h
  j5:=G.j5
  kq:=G.kq},?_⟩
 .have e:(γ.fT i d wv wr ws es).eN hs=γ.eN hs:=by
   funext j;unfold av.eN;rw[(atz:(γ.fT i d wv wr ws es).n0=γ.n0)];by_cases a:j=i
   .subst a;rw[D];simp[o,hd,k]
   .rw[f j a]
  rw[e];exact bE
 .show _=at7 γ.bC i (A0 (γ.bC i) es) j;by_cases e:j=i
  .subst e;rw[m j a l,if_pos rfl,atY]
  .have F:¬γ.gone j:=λh=>E ⟨h.1,by rw[f j e];exact h.2⟩;rw[m j a F,if_neg e,auc _ _ e]
 .have a:j≠i:=by have:j<γ.n0:=c;omega
  rw[f j a];exact G.old j h1 c
 .by_cases e:j=i
  .subst e;exact B
  .rw[f j e]at a;exact G.out j a
 .by_cases e:j=i
  .subst e;exact G.full j h1 c k
  .rw[f j e]at r;exact G.full j h1 c r
 .by_cases e:j=i
  .subst e;exact o
  .rw[f j e]at c;exact G.eO j h1 c
 .rw[m i hi l,if_pos rfl]
def RS(b:wv<=γ.wv)(c:γ.ms≠.reg->ws=γ.ws/\wr=γ.wr):(fD P tM tW os0 Post).qp i γ (γ.fT i d wv wr ws es):=by intro j a;have e:(γ.fT i d wv wr ws es).wd j=γ.wd j:=auc _ _ a;exact⟨.inr (.inr ⟨vr _,rfl,rfl,rfl,rfl,rfl,rfl,rfl,e,rfl,rfl,auc _ _ a,Iff.rfl,rfl,vr _,λh=>absurd rfl h,λ_=>rfl,λ_=>⟨rfl,rfl,rfl,b,c⟩,rfl,rfl⟩),by show(j≠0/\_)↔(j≠0/\_);rw[e]⟩
def RU{g:B6}(b:ws=γ.ws\/mayWake P g=J):(fD P tM tW os0 Post).qt g γ (γ.fT i d wv wr ws es):=by
 intro j h1 e;rcases b with b|b
 .exfalso;apply e;change (γ.fT i d wv wr ws es).waits j;have a:γ.waits j:=h1;unfold av.waits at a ⊢;split
  .rename_i c;rw[if_pos c]at a;exact⟨a.1,by show ws=0;rw[b];exact a.2⟩
  .rename_i c;rw[if_neg c]at a;exact a
 .exact b
def c8.agd(G:c8 tM tW os0 γ n hs w t)(h0:0<i)(hi:i<n)(p:γ.on=J)(r:γ.n0<=i)(q:γ.wd i=.wk)(D:γ.x.md i=.out)(E:γ.cN i=γ.full i)(s:γ.bC i=0)(fn:vb)(pos:String):c8 tM tW os0 (γ.fT i .jv γ.wv γ.wr γ.ws #[]) n (cA hs i ae.empty) w (t++T1 i fn pos #[⟨.mark (.releaseMerge ⟨γ.wg,0,o0⟩),q9,J⟩]):=by
 have F:¬γ.gone i:=λh=>by have:=h.2;rw[q]at this;cases this
 obtain⟨ad,H,m3⟩:=G.gP p;have c:T1 i fn pos #[⟨.mark (.releaseMerge ⟨γ.wg,0,o0⟩),q9,J⟩]=#[{g:=i,fn,pos,act:=.mark (.releaseMerge ⟨γ.wg,0,o0⟩)}]:=by rw[auy];simp[Zs]
 have m:∀j,j≠i->(γ.fT i .jv γ.wv γ.wr γ.ws #[]).wd j=γ.wd j:=λj a=>auc _ _ a;have I:(γ.fT i .jv γ.wv γ.wr γ.ws #[]).wd i=.jv:=atY _ _ _;have y:Deaf t i=0:=(G.bC i hi F).trans s;rw[c];have R:fy hs n γ.gN (· ∈γ.sh) ⟨γ.mu,0,o0⟩ γ.aW w (t++#[{g:=i,fn,pos,act:=.mark (.releaseMerge ⟨γ.wg,0,o0⟩)}]):=by refine G.hi.shared hi rfl (λ_ _=>rfl) λop c=> ?_;simp at c;subst c;exact⟨⟨rfl,Y,λx o=>by simp[at2]at o⟩,G.hi.low _ H⟩
 have S:=R.weaken (i:=i) (h':=ae.empty) hi (λb x o=>by simp[ae.empty]at o) (λb x o=>by simp[ae.empty]at o);have dB:∀f:WD->Nat,f .jv=f .wk->(γ.fT i .jv γ.wv γ.wr γ.ws #[]).dB f=γ.dB f:=λf K=>by have:=Ea (d:=.jv) (wv:=γ.wv) (wr:=γ.wr) (ws:=γ.ws) (es:=#[]) γ f (by rw[G.aG];exact hi) r;rw[q,K]at this;omega
 have z:∀j,j≠i->cA hs i ae.empty j=hs j:=λj a=>gn _ _ a;refine{
  aG:=G.aG
  pos:=G.pos
  n0:=G.n0
  hi:=S
  je:= ?_
  bC:=λj a L=> ?_
  old:=λj h1 l=> ?_
  jy:=λ_=>G.jy p
  jf:=λ_=>G.jf p
  gP:=G.gP
  ok:=G.ok
  cap:=G.cap
  out:=λj a=> ?_
  cw:=G.cw
  kW:=G.kW
  full:=λj h1 l A=> ?_
  hB:= ?_
  eO:=λj h1 l=> ?_
  os:=G.os
  jZ:=G.jZ
  j5:=G.j5
  kq:=G.kq}
 .have Jz:=G.je.app (g:=i) (u:=#[{g:=i,fn,pos,act:=.mark (.releaseMerge ⟨γ.wg,0,o0⟩)}]) (λop c=>by simp at c;subst c;rfl) (λop c=>by simp at c;subst c;simp) (λ_ W=>by exfalso;apply W;unfold av.eN;rw[if_neg U,if_pos (.inl q)])
  have eN:∀j,j≠i->(γ.fT i .jv γ.wv γ.wr γ.ws #[]).eN (cA hs i ae.empty) j=γ.eN hs j:=λj a=>by unfold av.eN;rw[(atz:(γ.fT i .jv γ.wv γ.wr γ.ws #[]).n0=γ.n0),m j a,z j a]
  refine⟨Jz.norel,λj h1 l e=> ?_,λj h1 l e=> ?_⟩
  .by_cases a:j=i
   .subst a;have M:(t++#[({g:=j,fn,pos,act:=.mark (.releaseMerge ⟨γ.wg,0,o0⟩)}:MemOp)])[t.size]? =C {g:=j,fn,pos,act:=.mark (.releaseMerge ⟨γ.wg,0,o0⟩)}:=Y
    refine⟨t.size,by rw[act?_of M];rfl,by simp[Trace.g?],⟨j,by simp[Trace.g?],by rw[deaf_old (vr _)];exact y⟩,λk hk N=> ?_⟩;obtain⟨op,P,_⟩:=Option.map_eq_some_iff.1 N;have:=(Array.getElem?_eq_some_iff.1 P).1;simp at this;omega
   .rw[eN j a]at e;exact Jz.rz j h1 l e
  .by_cases a:j=i
   .subst a;exfalso;have:(γ.fT j .jv γ.wv γ.wr γ.ws #[]).eN (cA hs j ae.empty) j=.rz:=by unfold av.eN;rw[if_neg (show ¬j<(γ.fT j .jv γ.wv γ.wr γ.ws #[]).n0 from Nat.not_lt.2 r),I,kF];simp
    have B:(γ.fT j .jv γ.wv γ.wr γ.ws #[]).eN (cA hs j ae.empty) j=.jn:=e;rw[this]at B;cases B
   .rw[eN j a]at e;exact Jz.jn j h1 l e
 .show _=at7 γ.bC i (A0 (γ.bC i) #[]) j;by_cases e:j=i
  .subst e;rw[atY];have:=Deaf_own t j fn pos #[⟨.mark (.releaseMerge ⟨γ.wg,0,o0⟩),q9,J⟩];rw[c]at this;rw[this,y,s];rfl
  .have Q:¬γ.gone j:=λh=>L ⟨h.1,by rw[m j e];exact h.2⟩;rw[auc _ _ e,Deaf_other t (g':=i) (λh=>e h.symm) _ (λop c=>by simp at c;subst c;rfl)];exact G.bC j a Q
 .have a:j≠i:=by have:j<γ.n0:=l;omega
  rw[m j a];exact G.old j h1 l
 .by_cases e:j=i
  .subst e;exact D
  .rw[m j e]at a;exact G.out j a
 .by_cases e:j=i
  .subst e;exact E
  .rw[m j e]at A;exact G.full j h1 l A
 .have v:=G.hB.v;have X:=G.hB.st;exact⟨by rw[dB _ rfl];exact v,by rw[dB _ rfl,dB _ rfl];exact X⟩
 .by_cases e:j=i
  .subst e;rw[kF]
  .rw[m j e]at l;rw[z j e];exact G.eO j h1 l
end
end
section
open Go.ConcM (OsLater muBlock)
open Go.ConcR (wgBlock WgAt stA smA)
def av.gh(γ:av)(ms:jx)(wv wr ws:Nat)(es:Array R1):av:= {γ with ms:=ms,wv:=wv,wr:=wr,ws:=ws,bC:=at7 γ.bC 0 (A0 (γ.bC 0) es)}
section
variable{P:tb}{tM tW:ta}{os0:eI}{Post:o5->tg->Prop}{γ:av}{n:Nat}{hs:Nat->ae}{w w':tg}{t:N1}{es:Array R1}{ms:jx}{wv wr ws:Nat}
def yo{b:aS}{o:sa}{aA:Operand->o5}{s:av}{h:ae}{K:av->ae->o5->Prop}
  (hs:∀(a:Act) (ops:Array sa) (j:Nat) (rest:List Nat) (k:List R8) (cs:List vH),b.kind≠.early->a.eval=aA->ops[j]? =C o->R9 o (auq ops a.tmps)=J->∀(γ:av) (n:Nat) (hs:Nat->ae) (w:tg) (t:N1),av.Rel 0 s γ->c8 tM tW os0 γ n hs w t->hs 0=h->
   (γ.waits 0/\vx P J (G (b.at a (.inRegion ops (j::rest)::k)) cs) w=.go {G (b.at a (.inRegion ops (j::rest)::k)) cs with status:=.blocked} w #[])\/
   (∃d v w' es h',vx P J (G (b.at a (.inRegion ops (j::rest)::k)) cs) w=.go (G (b.at (a.put o.dst v) (.inRegion ops rest::k)) cs) w' es/\c8 tM tW os0 d n (cA hs 0 h') w' (t++gZ 0 (G (b.at a (.inRegion ops (j::rest)::k)) cs) es)/\(fD P tM tW os0 Post).qp 0 γ d/\
    (fD P tM tW os0 Post).qt (G (b.at a (.inRegion ops (j::rest)::k)) cs) γ d/\K d h' v)):
  lv P J ((fD P tM tW os0 Post).jq) b o aA s h K:=by
 intro Q a ops j rest k cs m e f p c;refine dv.sync ⟨rfl,rfl,λγ n g w t i l q=> ?_⟩;rcases hs a ops j rest k cs m e f p γ n g w t i l q with h1|⟨d,v,w',es,h',r,u,x,y,z⟩
 .exact .inl h1
 .exact .inr (.inl ⟨d,_,w',es,h',r,u,x,y,rfl,c d h' v z⟩)
def RV(γ:av)(e:R1):Prop:=∃a,a.block=γ.wg/\(e=⟨.mark (.read a),q9,J⟩\/e=⟨.mark (.write a),q9,J⟩)
def c8.gh(G:c8 tM tW os0 γ n hs w t)(o:γ.on=J)(F:(γ.gh ms wv wr ws es).nL)
  (s:w'.heap.size=w.heap.size) (hb:∀b,b≠γ.wg->w'.heap[b]? =w.heap[b]?) (u:w'.heap[γ.wg]? =C (wgBlock tW (4294967296*wv+wr:Nat) ws)) (v:mB w w')
  (z:∀e∈es,wa γ e\/RV γ e) (fn:vb) (pos:String):
  c8 tM tW os0 (γ.gh ms wv wr ws es) n hs w' (t++T1 0 fn pos es):=by
 obtain⟨I,l,A⟩:=G.gP o;have B:¬γ.gone 0:=λh=>h.1 rfl;have q:∀op∈T1 0 fn pos es,∃e,(wa γ e\/RV γ e)/\op= {g:=0,fn,pos,act:=.ofEvent e}:=λop c=>by rw[auy]at c;obtain⟨e,he,rfl⟩:=Array.mem_map.1 c;exact⟨e,z e he,rfl⟩
 have r:∀op∈T1 0 fn pos es,∀a,op.act≠.mark (.release a):=λop c a h=>by
  obtain⟨e,he,rfl⟩:=q op c;have d:=Go.ConcR.loc_of_ofEvent h;rcases he with(h1|h1|⟨k,x,rfl,_⟩)|⟨k,_,rfl|rfl⟩
  .rw[h1]at d;cases d
  .rw[h1]at d;cases d
  .cases d
  .cases d
  .cases d
 exact{
  aG:=G.aG
  pos:=G.pos
  n0:=G.n0
  hi:=by
   refine G.hi.shared G.pos s (λb D=>hb b λe=>D (by rw[e];exact l)) λop c=> ?_;have m:=r op c ⟨γ.mu,0,o0⟩;obtain⟨e,he,rfl⟩:=q op c;rcases he with(h1|h1|⟨k,x,rfl,i⟩)|⟨k,i,rfl|rfl⟩
   .obtain⟨loc,wr,H⟩:=e;simp only at h1;subst h1;exact⟨⟨rfl,m,λy f=>by simp[Zs,at2]at f⟩,trivial⟩
   .obtain⟨loc,wr,H⟩:=e;simp only at h1;subst h1;exact⟨⟨rfl,m,λy f=>by simp[Zs,at2]at f⟩,trivial⟩
   .refine⟨⟨rfl,m,λy f=> ?_⟩,G.hi.low _ i⟩;simp only[Zs,at2,W6]at f;subst f;exact⟨k.block,rfl,.inl ⟨i,Y,Y⟩⟩
   .have d:=G.hi.low _ l;refine⟨⟨rfl,m,λy f=> ?_⟩,by rw[<- i]at d;exact d⟩;simp only[Zs,at2,W6]at f;subst f;exact⟨k.block,rfl,.inl ⟨by rw[i];exact l,Y,λ_=>rfl⟩⟩
   .have d:=G.hi.low _ l;refine⟨⟨rfl,m,λy f=> ?_⟩,by rw[<- i]at d;exact d⟩;simp only[Zs,at2,W6]at f;subst f;exact⟨k.block,rfl,.inl ⟨by rw[i];exact l,Y,λ_=>rfl⟩⟩
  je:=G.je.app (g:=0) (λop c=>s5 c) (λop c=>r op c _) λh0=>by omega
  bC:=λj p E=>by
   show _=at7 γ.bC 0 (A0 (γ.bC 0) es) j;by_cases e:j=0
   .subst e;rw[Deaf_own,G.bC 0 p B,atY]
   .rw[auc _ _ e,Deaf_other t (g':=0) (λh=>e h.symm) _ (λop c=>s5 c)];exact G.bC j p E
  old:=G.old
  jy:=λ_=>by rw[(atz:(γ.gh ms wv wr ws es).mu=γ.mu),hb _ A];exact G.jy o
  jf:=λ_=>u
  gP:=G.gP
  ok:=G.ok
  cap:=G.cap
  out:=G.out
  cw:=G.cw
  kW:=G.kW
  full:=G.full
  hB:=F
  eO:=G.eO
  os:=G.os.trans v
  jZ:=λh=>by have:=G.j5 o;rw[(atz:(γ.gh ms wv wr ws es).iB=γ.iB),this]at h;cases h
  j5:=G.j5
  kq:=G.kq}
def RX:(fD P tM tW os0 Post).qp 0 γ (γ.gh ms wv wr ws es):=λj a=>⟨.inr (.inr ⟨vr _,rfl,rfl,rfl,rfl,rfl,rfl,rfl,rfl,rfl,rfl,auc _ _ a,Iff.rfl,rfl,vr _,λh=>absurd rfl h,λ_=>rfl,λh=>absurd h a,rfl,rfl⟩),Iff.rfl⟩
def RY{g:B6}(h0:¬γ.waits 0\/(γ.gh ms wv wr ws es).waits 0):(fD P tM tW os0 Post).qt g γ (γ.gh ms wv wr ws es):=by
 intro j h1 c;exfalso;by_cases b:j=0
 .subst b;exact h0.elim (λh=>h h1) c
 .apply c;change (γ.gh ms wv wr ws es).waits j;have a:γ.waits j:=h1;unfold av.waits at a ⊢;rw[if_neg b]at a ⊢;exact a
structure gM(s:av)(wg mu:Nat)(ms:jx)(k:Nat):Prop where
 on:s.on=J
 aG:0<s.aG
 ms:s.ms=ms
 bC:s.bC 0=k
 wg:s.wg=wg
 mu:s.mu=mu
def gM.rel{s γ:av}{wg mu k:Nat}(M:gM s wg mu ms k)(r:av.lI 0 s γ):gM γ wg mu ms k:=⟨r.on.trans M.on,auj M.aG r.aG,(r.z rfl).1.trans M.ms,r.bC.trans M.bC,r.wg.trans M.wg,r.mu.trans M.mu⟩
def gM.gh{s:av}{wg mu k k':Nat}{ms':jx}(M:gM s wg mu ms k)(a:A0 k es=k'):gM (s.gh ms' wv wr ws es) wg mu ms' k':=⟨M.on,M.aG,rfl,by show at7 s.bC 0 (A0 (s.bC 0) es) 0=_;rw[atY,M.bC,a],M.wg,M.mu⟩
def rS{s γ:av}(a:av.Rel 0 s γ)(h:0<s.aG):av.lI 0 s γ:=a.s h λb=>b.1 rfl
def wj{s:av}{h:ae}{K:av->ae->o5->Prop}{f:vb}{fn:Func}{x:Array o5->Sem o5}{args:Array o5}{wg mu k:Nat}(X:gw P f fn x)(M:gM s wg mu ms k)
  (hs:∀(γ:av) (w:tg),av.lI 0 s γ->gM γ wg mu ms k->γ.nL->WgAt tW wg w ((4294967296*γ.wv+γ.wr:Nat):Int) ((γ.ws:Nat):Int)->(γ.waits 0/\(x args).run P w=.halt .blocked w)\/
   ∃v w' evs ms' d i l,(x args).run P w=.ok v w'/\(x args).events P w #[⟨.mark (.extern f),q9,J⟩]=#[⟨.mark (.extern f),q9,J⟩]++evs/\(∀y∈evs,y.sync=J/\∀g,y.loc≠.mark (.extern g))/\
   (w'.heap.size=w.heap.size/\(∀b,b≠wg->w'.heap[b]? =w.heap[b]?)/\WgAt tW wg w' ((4294967296*d+i:Nat):Int) ((l:Nat):Int)/\(w'.os=w.os/\w'.output=w.output))/\
   (∀e∈evs,(e.loc=.mark .disable\/e.loc=.mark .enable\/∃o y,e=⟨.cell ⟨wg,o,o0⟩,y,J⟩)\/∃a,a.block=wg/\(e=⟨.mark (.read a),q9,J⟩\/e=⟨.mark (.write a),q9,J⟩))/\
   (γ.gh ms' d i l evs).nL/\(¬γ.waits 0\/(γ.gh ms' d i l evs).waits 0)/\(gM (γ.gh ms' d i l evs) wg mu ms' (A0 k evs)->K (γ.gh ms' d i l evs) h v)):
  ej P J ((fD P tM tW os0 Post).jq) f args s h (K:=⟨K⟩):=by
 refine .inr (.inr λb o aA b1 gH z p=>yo λa ops j rest Q cs S F A D γ n af w t G m H=> ?_);subst F;have R:=rS G M.aG;have c:=M.rel R;have E:=m.jf c.on;rw[c.wg]at E;have B:=(m.gP c.on).2.1;rcases hs γ w R c m.hB E with⟨r,u⟩|⟨v,w',evs,ms',d,i,l,c1,c2,c3,⟨c4,c5,c6,cG⟩,W,dk,ab,I⟩
 .exact .inl ⟨r,Qd (rest:=rest) A D z X.f X.name X.body X.next X.find (by rw[p];exact u)⟩
 .have L:=s9 (rest:=rest) (main:=J) (b:=b) (a:=a) (k:=Q) (cs:=cs) (w:=w) A D S z X.f X.name X.body X.next X.find (by rw[p];exact c1) (by rw[p];exact c2) c3;refine .inr ⟨γ.gh ms' d i l evs,v,w',evs,h,L,?_,RX,RY ab,I (c.gh rfl)⟩;rw[<- H,pt];refine m.gh c.on dk c4 (λb hb=>c5 b (by rw[<- c.wg];exact hb)) (by rw[c.wg];exact c6) (mB.of cG.1 cG.2) (λe he=> ?_) _ _;rcases W e he with(q|q|⟨o',y,rfl⟩)|⟨N,r,u⟩
  .exact .inl (.inl q)
  .exact .inl (.inr (.inl q))
  .exact .inl (.inr (.inr ⟨_,y,rfl,by rw[c.wg]at B;exact B⟩))
  .exact .inr ⟨N,by rw[c.wg];exact r,u⟩
end
end
section
open Go.ConcM (OsLater muBlock)
open Go.ConcR (wgBlock WgAt stA smA)
def yq(aK:vH):Option sa:=match aK.mode with
 | .run=>match aK.todo with
  | .inRegion ops (i::_)::_=>match ops[i]? with
   |some o=>match R9 o (auq ops aK.tmps)with
    |true=>C o
    |false=>o0
   |none=>o0
  |_=>o0
 |_=>o0
def RZ{aK:vH}{o:sa}(h:yq aK=C o):∃ops i rest k,aK=(⟨aK.fn,aK.kind,aK.roundOf⟩:aS).at ⟨aK.tmps,aK.defers⟩ (.inRegion ops (i::rest)::k)/\ops[i]? =C o/\R9 o (auq ops aK.tmps)=J/\∀v,aK.finish v=(⟨aK.fn,aK.kind,aK.roundOf⟩:aS).at ((⟨aK.tmps,aK.defers⟩:Act).put o.dst v) (.inRegion ops rest::k):=by
 unfold yq at h;split at h
 .rename_i c;split at h
  .rename_i ops i rest k b;split at h
   .rename_i f a;split at h
    .rename_i d;cases h;have e:aK=(⟨aK.fn,aK.kind,aK.roundOf⟩:aS).at ⟨aK.tmps,aK.defers⟩ (.inRegion ops (i::rest)::k):=by rw[<- b];exact afd c
     refine⟨ops,i,rest,k,e,a,d,λv=> ?_⟩;have:=aS.finish_at ⟨aK.fn,aK.kind,aK.roundOf⟩ ⟨aK.tmps,aK.defers⟩ ops i rest k v;rw[a,<- e]at this;exact this
    .cases h
   .cases h
  .cases h
 .cases h
def j7(aK:vH):Option (vb×List o5):=match yq aK with
 |some o=>match o.op with
  | .call ⟨.value (.func f),b1,_⟩=>C (f,b1.toList.map aK.eval)
  |_=>o0
 |none=>o0
def jg(aK:vH):Bool:=match aK.kind with|.early=>q9|_=>J
section
variable{P:tb}{main:Bool}{tM tW:ta}{os0:eI}{Post:o5->tg->Prop}{i:Nat}{s:av}{h:ae}{f:vb}{fn:Func}{x:Array o5->Sem o5}{args:List o5}{aK:vH}{cs:List vH}{Q:av->ae->B6->Prop}
def age(h:j7 aK=C (f,args)):∃o b1 gH,yq aK=C o/\o.op=.call {callee:=.value (.func f),args:=b1,argTypes:=gH}/\b1.map aK.eval=args.toArray:=by
 unfold j7 at h;split at h
 .rename_i o a;split at h
  .rename_i c b1 gH b;cases h;exact⟨o,b1,gH,a,b,by apply Array.toList_inj.1;simp⟩
  .cases h
 .cases h
def R7(X:gw P f fn x)(n:j7 aK=C (f,args))(c:jg aK=J){w w':tg}{v:o5}{evs:Array R1}(c1:(x args.toArray).run P w=.ok v w')(c2:(x args.toArray).events P w #[⟨.mark (.extern f),q9,J⟩]=#[⟨.mark (.extern f),q9,J⟩]++evs)
  (c3:∀y∈evs,y.sync=J/\∀g,y.loc≠.mark (.extern g)):vx P main (B5 aK cs) w=.go (B5 (aK.finish v) cs) w' evs/\mayWake P (B5 aK cs)=J:=by
 obtain⟨o,b1,gH,p,d,q⟩:=age n;obtain⟨ops,j,rest,k,e,h1,s,t⟩:=RZ p;have l:b1.map (⟨aK.tmps,aK.defers⟩:Act).eval=args.toArray:=by
  rw[<- q];have:aK.eval=(⟨aK.tmps,aK.defers⟩:Act).eval:=by rw[e];exact aS.BH _
  rw[this]
 have r:aK.kind≠.early:=by intro h;unfold jg at c;rw[h]at c;cases c
 have m:=s9 (P:=P) (main:=main) (b:=⟨aK.fn,aK.kind,aK.roundOf⟩) (a:=⟨aK.tmps,aK.defers⟩) (ops:=ops) (i:=j) (rest:=rest) (k:=k) (cs:=cs) (w:=w) (w':=w') h1 s r d X.f X.name X.body X.next X.find (v:=v) (evs:=evs) (by rw[l];exact c1) (by rw[l];exact c2) c3;rw[<- e,<- t]at m;refine⟨m,?_⟩;have:=Qe (P:=P) (b:=⟨aK.fn,aK.kind,aK.roundOf⟩) (a:=⟨aK.tmps,aK.defers⟩) (rest:=rest) (k:=k) (cs:=cs) h1 d X.f X.body;rw[<- e]at this;exact this
def Sa(X:gw P f fn x)(c:j7 aK=C (f,args))(l:jg aK=J)
  (hs:∀(γ:av) (n:Nat) (hs:Nat->ae) (w:tg) (t:N1),av.Rel i s γ->c8 tM tW os0 γ n hs w t->i<n->¬γ.gone i->hs i=h->∃v w' evs γ' h',(x args.toArray).run P w=.ok v w'/\(x args.toArray).events P w #[⟨.mark (.extern f),q9,J⟩]=#[⟨.mark (.extern f),q9,J⟩]++evs/\(∀y∈evs,y.sync=J/\∀g,y.loc≠.mark (.extern g))/\c8 tM tW os0 γ' n (cA hs i h') w' (t++gZ i (B5 aK cs) evs)/\(fD P tM tW os0 Post).qp i γ γ'/\(mayWake P (B5 aK cs)=J->(fD P tM tW os0 Post).qt (B5 aK cs) γ γ')/\
   ((γ'.gone i/\∃q,QuitsD P q (Deaf (t++gZ i (B5 aK cs) evs) i) (B5 (aK.finish v) cs))\/(¬γ'.gone i/\dv P q9 ((fD P tM tW os0 Post).im i) Q γ' h' (B5 (aK.finish v) cs)))):
  dv P q9 ((fD P tM tW os0 Post).im i) Q s h (B5 aK cs):=by
 refine dv.sync ⟨rfl,rfl,λγ n d w t e j hi k m=>.inr ?_⟩;obtain⟨v,w',evs,γ',h',c1,c2,c3,c4,c5,c6,cG⟩:=hs γ n d w t e j hi k m;obtain⟨o,p⟩:=R7 (main:=q9) (cs:=cs) X c l c1 c2 c3;exact⟨γ',_,w',evs,h',o,c4,c5,c6 p,cG.imp id λ⟨a,b⟩=>⟨a,rfl,b⟩⟩
end
end
section
open Go.ConcM (OsLater muBlock)
open Go.ConcR (wgBlock WgAt stA smA)
noncomputable def Eb(wg:Nat):vH:=(⟨98,.deferred,o0⟩:aS).at ⟨#[.pointer (C ⟨wg,0,o0⟩),undef,undef,undef],[]⟩ [.code (Tryz.f98.body.getD .skip)]
def Ec(tmps:Array o5)(todo:List R8):vH:= {(⟨97,.deferred,o0⟩:aS).at ⟨tmps,[]⟩ todo with mode:=.returning}
noncomputable def tj:vH:= {(default:vH)with fn:=pv.funcs.size,defers:=[],mode:=.panicking [goexitEntry]}
def Ed(aK:vH):Option (ta×ta×o5):=match yq aK with
 |some o=>match o.op with
  | .convert s d x=>C (s,d,aK.eval x)
  |_=>o0
 |none=>o0
noncomputable def an(st:vH×List vH)(v:o5):vH×List vH:=wi pv 200 (st.1.finish v) st.2
noncomputable def iK(wg:Nat)(tmps:Array o5)(todo:List R8):vH×List vH:=wi pv 200 (Eb wg) [Ec tmps todo,tj]
def dH(wg:Nat)(tmps:Array o5)(todo:List R8):=an (iK wg tmps todo) (.pointer (C ⟨wg,0,o0⟩))
def d2(wg:Nat)(tmps:Array o5)(todo:List R8):=an (dH wg tmps todo) (.tuple #[])
def js(wg:Nat)(tmps:Array o5)(todo:List R8):=an (d2 wg tmps todo) (.tuple #[])
def jJ(wg:Nat)(tmps:Array o5)(todo:List R8):=an (js wg tmps todo) (.bool q9)
def m6(wg:Nat)(tmps:Array o5)(todo:List R8):=an (jJ wg tmps todo) (.int .u64 1)
def ox(wg:Nat)(tmps:Array o5)(todo:List R8):=an (m6 wg tmps todo) (.int .u64 1)
def nH(wg:Nat)(tmps:Array o5)(todo:List R8):=an (ox wg tmps todo) (.tuple #[])
section
variable(wg:Nat)(tmps:Array o5)(todo:List R8)
def Sb:Ed (iK wg tmps todo).1=C (252,170,.pointer (C ⟨wg,0,o0⟩))/\jg (iK wg tmps todo).1=J/\(iK wg tmps todo).1.roundOf=o0:=⟨O,O,O⟩
def agf:j7 (dH wg tmps todo).1=C (127,[.pointer (C ⟨wg,0,o0⟩)])/\jg (dH wg tmps todo).1=J:=⟨O,O⟩
def agh:j7 (d2 wg tmps todo).1=C (128,[])/\jg (d2 wg tmps todo).1=J:=⟨O,O⟩
def agi:j7 (js wg tmps todo).1=C (130,[])/\jg (js wg tmps todo).1=J:=⟨O,O⟩
def agj:j7 (jJ wg tmps todo).1=C (168,[.pointer (C ⟨wg,0,o0⟩),.int .u64 18446744069414584320])/\jg (jJ wg tmps todo).1=J:=⟨O,O⟩
def agk:j7 (m6 wg tmps todo).1=C (169,[.pointer (C ⟨wg,0,o0⟩)])/\jg (m6 wg tmps todo).1=J:=⟨O,O⟩
def agl:j7 (ox wg tmps todo).1=C (170,[.pointer (C ⟨wg,0,o0⟩),.int .u64 0])/\jg (ox wg tmps todo).1=J:=⟨O,O⟩
def agm:j7 (nH wg tmps todo).1=C (139,[.pointer (C ⟨wg,1,o0⟩),.bool q9,.int .i64 0])/\jg (nH wg tmps todo).1=J:=⟨O,O⟩
noncomputable abbrev mf(v:Int):Bool:=qM pv 129 400 1 ((jJ wg tmps todo).1.finish (.int .u64 v)) (jJ wg tmps todo).2
def agn:mf wg tmps todo 0=J:=O
def ago:mf wg tmps todo 4294967296=J:=O
def agp:mf wg tmps todo 8589934592=J:=O
def agq:mf wg tmps todo 12884901888=J:=O
def agr:mf wg tmps todo 17179869184=J:=O
def ags:mf wg tmps todo 21474836480=J:=O
def agt:mf wg tmps todo 25769803776=J:=O
def agu:mf wg tmps todo 30064771072=J:=O
def agv:mf wg tmps todo 34359738368=J:=O
def agw:mf wg tmps todo 4294967297=J:=O
def agx:mf wg tmps todo 8589934593=J:=O
def agy:mf wg tmps todo 12884901889=J:=O
def agz:mf wg tmps todo 17179869185=J:=O
def agA:mf wg tmps todo 21474836481=J:=O
def agB:mf wg tmps todo 25769803777=J:=O
def agC:mf wg tmps todo 30064771073=J:=O
def agD:mf wg tmps todo 34359738369=J:=O
def agE:qM pv 129 400 1 ((nH wg tmps todo).1.finish (.tuple #[])) (nH wg tmps todo).2=J:=O
def agF{v r:Nat}(a:v<=8)(b:r<=1)(h:¬(v=0/\r=1)):mf wg tmps todo ((4294967296*v+r:Nat):Int)=J:=by
 rcases(U:r=0\/r=1)with rfl|rfl<;>rcases(U:v=0\/v=1\/v=2\/v=3\/v=4\/v=5\/v=6\/v=7\/v=8)with rfl|rfl|rfl|rfl|rfl|rfl|rfl|rfl|rfl
 .exact agn ..
 .exact ago ..
 .exact agp ..
 .exact agq ..
 .exact agr ..
 .exact ags ..
 .exact agt ..
 .exact agu ..
 .exact agv ..
 .exact absurd ⟨rfl,rfl⟩ h
 .exact agw ..
 .exact agx ..
 .exact agy ..
 .exact agz ..
 .exact agA ..
 .exact agB ..
 .exact agC ..
 .exact agD ..
end
end
section
open Go.ConcM (OsLater muBlock)
open Go.ConcR (wgBlock WgAt stA smA)
def yr:gw pv 130 Tryz.f130 (λ_=>pure (.bool q9)):=⟨Tryz.func130,O,O,O,O⟩
def Sc:gw pv 168 Tryz.f168 (axZ (Op.intArith .add) .u64 J):=⟨Tryz.func168,O,O,O,O⟩
def Sd:gw pv 169 Tryz.f169 (Extern.Atomic.loadT (.int .u64)):=⟨Tryz.func169,O,O,O,O⟩
def agG:gw pv 170 Tryz.f170 Extern.Atomic.storeT:=⟨Tryz.func170,O,O,O,O⟩
def agH:gw pv 139 Tryz.f139 aw2:=⟨Tryz.func139,O,O,O,O⟩
def Ke:pv.underlying 252=C (.pointer 210):=O
def Kg:(pv.info? 210).map (λi=>decide (i.size=0))=C q9:=O
structure kY(i wg:Nat)(s:av)(d:WD)(k:Nat):Prop where
 pos:0<i
 on:s.on=J
 n0:s.n0<=i
 aG:i<s.aG
 wd:s.wd i=d
 bC:s.bC i=k
 Kh:s.wg=wg
 dW:s.cap<=s.n0+8
section
variable{tM tW:ta}{os0:eI}{Post:o5->tg->Prop}{i wg:Nat}{s γ:av}{h:ae}{d:WD}{k:Nat}{aK:vH}{cs:List vH}{Q:av->ae->B6->Prop}
def kY.rel(D:kY i wg s d k)(r:av.lI i s γ):kY i wg γ d k:=⟨D.pos,r.on.trans D.on,by rw[r.n0];exact D.n0,auj D.aG r.aG,r.wd.trans D.wd,r.bC.trans D.bC,r.wg.trans D.Kh,by rw[r.cap,r.n0];exact D.dW⟩
def kY.fT(D:kY i wg s d k){a:WD}{wv wr ws:Nat}{es:Array R1}{k':Nat}(b:A0 k es=k'):kY i wg (s.fT i a wv wr ws es) a k':=⟨D.pos,D.on,D.n0,D.aG,atY _ _ _,by show at7 s.bC i (A0 (s.bC i) es) i=_;rw[atY,D.bC,b],D.Kh,D.dW⟩
def agI{n n0:Nat}{f:Nat->Nat}(a:∀j,f j<=1):at6 n (λj=>if n0<=j then f j else 0)<=n- n0:=by
 induction n with
 |zero=>simp[at6]
 |succ n b=>simp only[at6];have:=a n;split<;>omega
def Ki(γ:av){f:WD->Nat}(a:∀d,f d<=1):γ.dB f<=γ.aG- γ.n0:=agI λj=>a _
def Ee(D:kY i wg γ d k)(f:WD->Nat):f d<=γ.dB f+f .eO:=by have:=Ea (d:=.eO) (wv:=0) (wr:=0) (ws:=0) (es:=#[]) γ f D.aG D.n0;rw[D.wd]at this;omega
def agJ{st f t:ta}{a:Addr}(r:i<s.aG)(c:Ed aK=C (st,f,.pointer (C a)))(p:jg aK=J)(u:pv.underlying st=C (.pointer t))(y:pv.underlying f=C .unsafePointer)(z:(pv.info? t).map (λi=>decide (i.size=0))=C q9)
  (hc:∀(γ:av) (n:Nat) (hs:Nat->ae) (w:tg) (t:N1),av.lI i s γ->c8 tM tW os0 γ n hs w t->∃v,w.cell? a=C v)
  (kk:∀γ,av.lI i s γ->dv pv q9 ((fD pv tM tW os0 Post).im i) Q γ h (B5 (aK.finish (.pointer (C a))) cs)):
  dv pv q9 ((fD pv tM tW os0 Post).im i) Q s h (B5 aK cs):=by
 have key:∃o x,yq aK=C o/\o.op=.convert st f x/\aK.eval x=.pointer (C a):=by
  unfold Ed at c;split at c
  .rename_i o l;split at c
   .rename_i X W x g;simp only[W6,Prod.mk.injEq]at c;obtain⟨rfl,rfl,q⟩:=c;exact⟨o,x,l,g,q⟩
   .cases c
  .cases c
 obtain⟨o,x,l,g,q⟩:=key;obtain⟨ops,j,rest,k,e,h1,M,N⟩:=RZ l;have F:aK.kind≠.early:=by intro h;unfold jg at p;rw[h]at p;cases p
 have H:aK.eval=(⟨aK.tmps,aK.defers⟩:Act).eval:=by rw[e];exact aS.BH _
 refine dv.sync ⟨rfl,rfl,λγ n I w d A B hi m R=>.inr ?_⟩;obtain⟨v,D⟩:=hc γ n I w d (A.s r m) B;have K:(T0 (⟨aK.tmps,aK.defers⟩:Act).eval o).runT pv w #[]=(.ok (.value (.pointer (C a))) w,#[]):=by
  rw[wb];have S:T0 (⟨aK.tmps,aK.defers⟩:Act).eval o=(do pure (.value (<- convert st f (.pointer (C a)))):Sem Next):=by
   have L:(⟨aK.tmps,aK.defers⟩:Act).eval x=.pointer (C a):=by rw[<- H];exact q
   unfold T0;rw[g,<- L]
  rw[S];refine Prod.ext ?_ ?_
  .simp[run_convert_to_unsafe u y z D,ava]
  .simp[events_convert_to_unsafe u y z D]
 have E:=sz (P:=pv) (main:=q9) (b:=⟨aK.fn,aK.kind,aK.roundOf⟩) (a:=⟨aK.tmps,aK.defers⟩) (rest:=rest) (k:=k) (cs:=cs) h1 M (by unfold kS;rw[g]) F K rfl;rw[seen_none,<- e,<- N]at E;refine⟨γ,_,w,#[],h,E,?_,λj _=>⟨.refl j γ,Iff.rfl⟩,λj a b=>absurd a b,.inr ⟨m,rfl,kk γ (A.s r m)⟩⟩;rw[<- R,pt];have:(d++gZ i (B5 aK cs) #[])=d:=by show d++T1 _ _ _ #[]=d;rw[auy];simp
 rw[this];exact B
abbrev tk(tM tW:ta)(os0:eI)(Post:o5->tg->Prop)(i:Nat)(Q:av->ae->B6->Prop)(s:av)(h:ae)(st:vH×List vH):Prop:=dv pv q9 ((fD pv tM tW os0 Post).im i) Q s h (B5 st.1 st.2)
def wm{v:o5}{st:vH×List vH}(r:tk tM tW os0 Post i Q s h (an st v)):dv pv q9 ((fD pv tM tW os0 Post).im i) Q s h (B5 (st.1.finish v) st.2):=JH 200 r
def Se{d n:Nat}{aK:vH}{cs:List vH}(h:qM pv 129 n d aK cs=J):QuitsD pv n d (B5 aK cs):=aff kX.f kX.name kX.body kX.next kX.find n d aK cs h
def agK{γ:av}(W:γ.nL){γ':av}(e1:γ'.wv=γ.wv)(e2:γ'.wr=γ.wr)(e3:γ'.ws=γ.ws)(e4:γ'.ms=γ.ms)(e5:∀f,γ'.dB f=γ.dB f):γ'.nL:=by have v:=W.v;have a:=W.st;exact⟨by rw[e1,e5,e4];exact v,by rw[e4,e2,e3,e1,e5,e5];exact a⟩
def agL(D:kY i wg γ d k){wv wr ws:Nat}{es:Array R1}(f:WD->Nat):(γ.fT i d wv wr ws es).dB f=γ.dB f:=by have:=Ea (d:=d) (wv:=wv) (wr:=wr) (ws:=ws) (es:=es) γ f D.aG D.n0;rw[D.wd]at this;omega
def Sf(wg:Nat)(e:R1):Prop:=e.loc=.mark .disable\/e.loc=.mark .enable\/∃o x,e=⟨.cell ⟨wg,o,o0⟩,x,J⟩
def AB{f:vb}{fn:Func}{x:Array o5->Sem o5}{args:List o5}(X:gw pv f fn x)(B:j7 aK=C (f,args))(hk:jg aK=J)(D:kY i wg s d k)(hd:d≠.wk/\d≠.eO)
  (hs:∀(γ:av) (w:tg),kY i wg γ d k->γ.nL->γ.aG<=γ.cap->WgAt tW wg w ((4294967296*γ.wv+γ.wr:Nat):Int) ((γ.ws:Nat):Int)->∃v w' evs a h l m,(x args.toArray).run pv w=.ok v w'/\(x args.toArray).events pv w #[⟨.mark (.extern f),q9,J⟩]=#[⟨.mark (.extern f),q9,J⟩]++evs/\(∀y∈evs,y.sync=J/\∀g,y.loc≠.mark (.extern g))/\(w'.heap.size=w.heap.size/\(∀b,b≠wg->w'.heap[b]? =w.heap[b]?)/\WgAt tW wg w' ((4294967296*h+l:Nat):Int) ((m:Nat):Int)/\(w'.os=w.os/\w'.output=w.output))/\
   (∀j e,evs[j]? =C e->Sf wg e/\((Zs e).touch? =o0\/0<A0 k (evs.extract 0 j)))/\(γ.fT i a h l m evs).nL/\a≠.wk/\h<=γ.wv/\(γ.ms≠.reg->m=γ.ws/\l=γ.wr)/\
   ((a=.eO/\∃q,QuitsD pv q (A0 k evs) (B5 (aK.finish v) cs))\/(a≠.eO/\(kY i wg (γ.fT i a h l m evs) a (A0 k evs)->dv pv q9 ((fD pv tM tW os0 Post).im i) Q (γ.fT i a h l m evs) ae.empty (B5 (aK.finish v) cs))))):
  dv pv q9 ((fD pv tM tW os0 Post).im i) Q s ae.empty (B5 aK cs):=by
 refine Sa X B hk λγ n a8 w t E p hi F u=> ?_;have R:=E.s D.aG F;have c:=D.rel R;have r:=c.Kh;have A:=p.jf c.on;rw[r]at A;obtain⟨v,w',evs,a,h,l,m,c1,c2,c3,⟨c4,c5,c6,cG⟩,ad,dk,af,H,I,K⟩:=hs γ w c p.hB (by rw[p.aG];exact p.cap) A;have z:=(p.gP c.on).2.1;rw[r]at z;obtain⟨g1,g2⟩:=p.fT (d:=a) (wv:=h) (wr:=l) (ws:=m) (es:=evs) (w':=w') D.pos hi c.on c.n0 (by rw[c.wd];exact hd.1) (by rw[c.wd];exact hd.2) af u dk c4 (λb hb=>c5 b (by rw[<- r];exact hb)) (by rw[r];exact c6) (mB.of cG.1 cG.2)
  (λj e u=>by
   obtain⟨L,M⟩:=ad j e u;rw[c.bC];refine⟨?_,M⟩;rcases L with q|q|⟨o,y,rfl⟩
   .exact .inl q
   .exact .inr (.inl q)
   .exact .inr (.inr ⟨_,y,rfl,z⟩)) aK.fn aK.place
 refine⟨v,w',evs,γ.fT i a h l m evs,ae.empty,c1,c2,c3,by rw[<- u,pt];exact g1,RS H I,λhw=>RU (.inr hw),?_⟩;rcases K with⟨rfl,q,N⟩|⟨P,S⟩
 .refine .inl ⟨⟨by have:=D.pos;omega,atY _ _ _⟩,q,?_⟩;have e1:Deaf (t++gZ i (B5 aK cs) evs) i=A0 k evs:=by refine Eq.trans g2 ?_;rw[c.bC]
  rw[e1];exact N
 .exact .inr ⟨λW=>P (by have:=W.2;rw[show(γ.fT i a h l m evs).wd i=a from atY _ _ _]at this;exact this),S (c.fT rfl)⟩
def tn(D:kY i wg γ d k)(a:WD){wv wr ws:Nat}{es:Array R1}(f:WD->Nat):(γ.fT i a wv wr ws es).dB f+f d=γ.dB f+f a:=by have:=Ea (d:=a) (wv:=wv) (wr:=wr) (ws:=ws) (es:=es) γ f D.aG D.n0;rw[D.wd]at this;exact this
def Ef{γ:av}(W:γ.nL)(h:0<γ.dB av.gO\/0<γ.dB av.ic\/γ.wr=1):γ.ms=.reg:=by
 have a:=W.st;cases b:γ.ms with
 |reg=>rfl
 |eS p=>rw[b]at a;simp at a;omega
 |loop=>rw[b]at a;simp at a;omega
 |mC=>rw[b]at a;simp at a;omega
 |s3=>rw[b]at a;simp at a;omega
def agM{c:vH×List vH}(n:j7 c.1=C (139,[.pointer (C ⟨wg,1,o0⟩),.bool q9,.int .i64 0]))(z:jg c.1=J)(o:qM pv 129 400 1 (c.1.finish (.tuple #[])) c.2=J)
  (D:kY i wg s .a3 1):tk tM tW os0 Post i Q s ae.empty c:=by
 obtain⟨aK,cs⟩:=c;refine AB agH n z D ⟨Y,Y⟩ λγ w d W E f=> ?_;have c3:=Ee d av.ic;simp[av.ic]at c3;have g:=Ef W (.inr (.inl U));have h:=W.st;have k:=W.v;rw[g]at h;have p:γ.wr=0/\γ.wv=0/\γ.dB av.gO=0/\γ.ws=0/\γ.dB av.ic=1:=by rcases h with h|h<;>omega
 obtain⟨q,r,F,t,G⟩:=p;rw[t,q,r]at f;have l:w.cell? ⟨wg,1,o0⟩=C (.int .u32 (0:Int)):=f.cellSm;have m:w.frozen? ⟨wg,1,o0⟩=q9:=f.thaw 1;have u:=tn d .eO (wv:=0) (wr:=0) (ws:=1) (es:=atL (smA wg)) av.iC;have x:=tn d .eO (wv:=0) (wr:=0) (ws:=1) (es:=atL (smA wg)) av.gO;have y:=tn d .eO (wv:=0) (wr:=0) (ws:=1) (es:=atL (smA wg)) av.ic;simp only[av.iC,av.gO,av.ic]at u x y;have A:=au3 w (smA wg) (.int .u32 1);refine⟨.tuple #[],w.setCell (smA wg) (.int .u32 1),atL (smA wg),.eO,0,0,1,?_,?_,ayW _,⟨A.size,λb hb=>A.block b hb,f.setSm 1,A.os,A.output⟩,λj e a=> ?_,⟨?_,?_⟩,Y,U,λB=>absurd g B,.inl ⟨rfl,400,?_⟩⟩
 .simp[aw2,avR,l,m,ayX,Op.intArith,(aty:IntKind.u32.wrap 1=1),awg pv w ⟨wg,1,o0⟩ (.int .u32 1) .atomic rfl,ava,smA]
 .simp[aw2,avR,l,m,atL,Op.intArith,(aty:IntKind.u32.wrap 1=1),axw,events_store pv w _ ⟨wg,1,o0⟩ (.int .u32 1) .atomic rfl,awg pv w ⟨wg,1,o0⟩ (.int .u32 1) .atomic rfl,axY,smA]
 .match j,a with
  | 0,a=>simp[atL]at a;subst a;exact⟨.inl rfl,.inl rfl⟩
  | 1,a=>simp[atL]at a;subst a;exact⟨.inr (.inr ⟨1,_,rfl⟩),.inr (by simp[A0,atL])⟩
  | 2,a=>simp[atL]at a;subst a;exact⟨.inr (.inr ⟨1,_,rfl⟩),.inr (by simp[A0,atL])⟩
  | 3,a=>simp[atL]at a;subst a;exact⟨.inr (.inl rfl),.inl rfl⟩
  |j+4,a=>simp[atL]at a
 .show 0=_+(if γ.ms=.eS J then 1 else 0);rw[g]at k ⊢;simp at k ⊢;omega
 .show(match γ.ms with|.eS _|.loop=>_|.reg=>_|.mC|.s3=>_);rw[g];right;exact⟨rfl,rfl,U,by show 1+_=1;omega⟩
 .rw[show A0 1 (atL (smA wg))=1 by simp[A0,atL]];exact Se o
end
end
section
open Go.ConcM (OsLater muBlock)
open Go.ConcR (wgBlock WgAt stA smA)
def agN:gw pv 135 Tryz.f135 (auB .read):=⟨Tryz.func135,O,O,O,O⟩
def agO:gw pv 151 Tryz.f151 (auB .write):=⟨Tryz.func151,O,O,O,O⟩
def agP:gw pv 152 Tryz.f152 awf:=⟨Tryz.func152,O,O,O,O⟩
def agQ:gw pv 175 Tryz.f175 (azX (.int .u64)):=⟨Tryz.func175,O,O,O,O⟩
def Sg:pv.underlying 259=C (.pointer 199):=O
def Si:(pv.info? 199).map (λi=>decide (i.size=0))=C q9:=O
abbrev SM(tM tW:ta)(os0:eI)(Post:o5->tg->Prop):Sys av:=(fD pv tM tW os0 Post).jq
section
variable{tM tW:ta}{os0:eI}{Post:o5->tg->Prop}{s γ:av}{h:ae}{K:av->ae->o5->Prop}{wg mu k:Nat}{ms:jx}
def wo{γ:av}(W:γ.nL){es:Array R1}:(γ.gh γ.ms γ.wv γ.wr γ.ws es).nL:=⟨W.v,W.st⟩
def wq{γ:av}{A:Prop}(h:γ.ms≠.reg):¬γ.waits 0\/A:=by left;unfold av.waits;rw[if_pos rfl];exactλa=>h a.1
def agR{γ:av}{es:Array R1}:¬γ.waits 0\/(γ.gh γ.ms γ.wv γ.wr γ.ws es).waits 0:=by
 by_cases h:γ.waits 0
 .right;unfold av.waits at h ⊢;rw[if_pos rfl]at h ⊢;exact h
 .exact .inl h
structure gX(a b:av):Prop where
 aG:b.aG=a.aG
 cap:b.cap=a.cap
 n0:b.n0=a.n0
 mu:b.mu=a.mu
 wg:b.wg=a.wg
 on:b.on=a.on
 I:b.I=a.I
 full:b.full=a.full
 sh:b.sh=a.sh
 b0:b.b0=a.b0
def gX.trans{a b c:av}(h:gX a b)(k:gX b c):gX a c:=⟨k.aG.trans h.aG,k.cap.trans h.cap,k.n0.trans h.n0,k.mu.trans h.mu,k.wg.trans h.wg,k.on.trans h.on,k.I.trans h.I,k.full.trans h.full,k.sh.trans h.sh,k.b0.trans h.b0⟩
def gX.rel{a b:av}(r:av.lI 0 a b):gX a b:=⟨(r.z rfl).2.2.1,r.cap,r.n0,r.mu,r.wg,r.on,r.I,r.full,(r.z rfl).2.1,r.b0⟩
def gX.gh{a b:av}(r:gX a b){ms:jx}{wv wr ws:Nat}{es:Array R1}:gX a (b.gh ms wv wr ws es):=⟨r.aG,r.cap,r.n0,r.mu,r.wg,r.on,r.I,r.full,r.sh,r.b0⟩
def Kj{f:vb}{fn:Func}{m:Mark}(c:m=.disable\/m=.enable)(X:gw pv f fn (λ_=>do mark m;pure auA))(M:gM s wg mu ms k)(j:ms≠.reg)
  (kk:∀γ,gX s γ->γ.wv<=s.wv->gM γ wg mu ms (A0 k #[⟨.mark m,q9,J⟩])->K γ h (.tuple #[])):ej pv J (SM tM tW os0 Post) f #[] s h (K:=⟨K⟩):=by
 refine wj X M λγ w R d W l=>.inr ?_;refine⟨.tuple #[],w,#[⟨.mark m,q9,J⟩],γ.ms,γ.wv,γ.wr,γ.ws,by simp[auA],Y,λy a=> ?_,⟨rfl,λ_ _=>rfl,l,rfl,rfl⟩,λe i=> ?_,wo W,wq (by rw[d.ms];exact j),λb=>kk _ (gX.rel R).gh ((R.z rfl).2.2.2.1) (by rw[d.ms]at b ⊢;exact b)⟩
 .simp at a;subst a;rcases c with rfl|rfl<;>exact⟨rfl,λg h=>by cases h⟩
 .simp at i;subst i;rcases c with rfl|rfl
  .exact .inl (.inl rfl)
  .exact .inl (.inr (.inl rfl))
def agS(M:gM s wg mu (.eS q9) 0)
  (kk:∀γ,gX s γ->gM γ wg mu .loop 1->K γ h (.tuple #[])):ej pv J (SM tM tW os0 Post) 128 #[] s h (K:=⟨K⟩):=by
 refine wj rO M λγ w R d W j=>.inr ?_;have a:=W.st;have b:=W.v;rw[d.ms]at a b;simp at a b;refine⟨.tuple #[],w,#[⟨.mark .disable,q9,J⟩],.loop,γ.wv,γ.wr,γ.ws,by simp[auA],Y,λy c=> ?_,⟨rfl,λ_ _=>rfl,j,rfl,rfl⟩,λe f=> ?_,⟨?_,?_⟩,wq (by rw[d.ms];simp),λi=>kk _ (gX.rel R).gh (by simpa[A0]using i)⟩
 .simp at c;subst c;exact⟨rfl,λg h=>by cases h⟩
 .simp at f;subst f;exact .inl (.inl rfl)
 .show γ.wv=γ.dB av.iC+(if jx.loop=jx.eS J then 1 else 0);simp;omega
 .show γ.wr=0/\γ.ws=0/\γ.dB av.gO=0/\γ.dB av.ic=0;exact a
def Sj{f:vb}{fn:Func}{mk:Addr->Mark}(b:mk=.read\/mk=.write)(X:gw pv f fn (auB mk))(M:gM s wg mu ms k){x:Array o5}{o:Nat}{r:List o5}(i:x=⟨.pointer (C ⟨wg,o,o0⟩)::r⟩)
  (kk:∀γ,gX s γ->gM γ wg mu ms k->K γ h (.tuple #[])):ej pv J (SM tM tW os0 Post) f x s h (K:=⟨K⟩):=by
 subst i;refine wj X M λγ w R j W l=>.inr ?_;refine⟨.tuple #[],w,#[⟨.mark (mk ⟨wg,o,o0⟩),q9,J⟩],γ.ms,γ.wv,γ.wr,γ.ws,by simp[auB,avS,auA],by simp[auB,avS],λy c=> ?_,⟨rfl,λ_ _=>rfl,l,rfl,rfl⟩,λe d=> ?_,wo W,agR,λa=>kk _ (gX.rel R).gh ?_⟩
 .simp at c;subst c;rcases b with rfl|rfl<;>exact⟨rfl,λg h=>by cases h⟩
 .simp at d;subst d;rcases b with rfl|rfl
  .exact .inr ⟨_,rfl,.inl rfl⟩
  .exact .inr ⟨_,rfl,.inr rfl⟩
 .have:A0 k #[⟨.mark (mk ⟨wg,o,o0⟩),q9,J⟩]=k:=by rcases b with rfl|rfl<;>rfl
  rw[this]at a;rw[j.ms]at a ⊢;exact a
def agT{main:Bool}{S:Sys av}(kk:K s h (.bool q9)):ej pv main S 130 #[] s h (K:=⟨K⟩):= .inr (.inl ⟨Tryz.f130,_,yr.f,yr.name,yr.body,yr.next,yr.find,by simp only[al,aR];exact kk⟩)
def agU(M:gM s wg mu (.eS q9) k)(t:s.aG<=s.n0+1000000)
  (kk:∀γ (v:Nat),gX s γ->gM γ wg mu (.eS J) k->1<=v->v<=1000001->K γ h (.int .u64 ((4294967296*v:Nat):Int))):
  ej pv J (SM tM tW os0 Post) 168 #[.pointer (C ⟨wg,0,o0⟩),.int .u64 4294967296] s h (K:=⟨K⟩):=by
 refine wj Sc M λγ w R m W a=>.inr ?_;have c:=W.st;have g:=W.v;rw[m.ms]at c g;simp at c g;obtain⟨i,o,p,q⟩:=c;have hb:=Ki γ (f:=av.iC) (by intro d;cases d<;>simp[av.iC]);have u:=(R.z rfl).2.2.1;have x:=R.n0;have hc:w.cell? ⟨wg,0,o0⟩=C (.int .u64 ((4294967296*γ.wv+γ.wr:Nat):Int)):=a.cellSt;have j:w.frozen? ⟨wg,0,o0⟩=q9:=a.thaw 0;have r:IntKind.u64.wrap (((4294967296*γ.wv+γ.wr:Nat):Int)+4294967296)=((4294967296*(γ.wv+1):Nat):Int):=by simp only[IntKind.wrap,IntKind.bits,IntKind.signed,Bool.false_and];simp;omega
 have A:=au3 w (stA wg) (.int .u64 ((4294967296*(γ.wv+1):Nat):Int));have hd:A0 k #[⟨.cell ⟨wg,0,o0⟩,q9,J⟩,⟨.cell ⟨wg,0,o0⟩,J,J⟩]=k:=by simp[A0]
 refine⟨.int .u64 ((4294967296*(γ.wv+1):Nat):Int),w.setCell (stA wg) (.int .u64 ((4294967296*(γ.wv+1):Nat):Int)),#[⟨.cell ⟨wg,0,o0⟩,q9,J⟩,⟨.cell ⟨wg,0,o0⟩,J,J⟩],.eS J,γ.wv+1,γ.wr,γ.ws,?_,?_,sync_rw _,⟨A.size,λb hb=>A.block b hb,?_,A.os,A.output⟩,λe n=> ?_,⟨?_,?_⟩,wq (by rw[m.ms];simp),λl=>kk _ (γ.wv+1) (gX.rel R).gh (by rw[hd]at l;exact l) U U⟩
 .rw[<- r];exact run_add_entry hc j
 .exact(events_add_entry hc j _).trans rfl
 .have:=a.setSt ((4294967296*(γ.wv+1):Nat):Int);rw[i];exact this
 .simp at n;rcases n with rfl|rfl<;>exact .inl (.inr (.inr ⟨0,_,rfl⟩))
 .show γ.wv+1=γ.dB av.iC+(if jx.eS J=jx.eS J then 1 else 0);simp;omega
 .show γ.wr=0/\γ.ws=0/\γ.dB av.gO=0/\γ.dB av.ic=0;exact⟨i,o,p,q⟩
def agV(M:gM s wg mu ms k)(f:ms≠.reg)
  (kk:∀γ,gX s γ->gM γ wg mu ms k->γ.nL->γ.wv<=s.wv->K γ h (.int .u64 ((4294967296*γ.wv+γ.wr:Nat):Int))):
  ej pv J (SM tM tW os0 Post) 169 #[.pointer (C ⟨wg,0,o0⟩)] s h (K:=⟨K⟩):=by
 refine wj Sd M λγ w R a W c=>.inr ?_;have hc:w.cell? ⟨wg,0,o0⟩=C (.int .u64 ((4294967296*γ.wv+γ.wr:Nat):Int)):=c.cellSt;have hd:A0 k #[⟨.cell ⟨wg,0,o0⟩,q9,J⟩]=k:=by simp[A0]
 refine⟨.int .u64 ((4294967296*γ.wv+γ.wr:Nat):Int),w,#[⟨.cell ⟨wg,0,o0⟩,q9,J⟩],γ.ms,γ.wv,γ.wr,γ.ws,?_,?_,sync_r _,⟨rfl,λ_ _=>rfl,c,rfl,rfl⟩,λe d=> ?_,wo W,wq (by rw[a.ms];exact f),λb=>kk (γ.gh γ.ms γ.wv γ.wr γ.ws #[⟨.cell ⟨wg,0,o0⟩,q9,J⟩]) (gX.rel R).gh (by rw[hd,a.ms]at b;rw[a.ms];exact b) (wo W) ((R.z rfl).2.2.2.1)⟩
 .change Sem.run pv (do awI (.int .u64) (<- asAddr (.pointer (C ⟨wg,0,o0⟩)))) w=_;simp[awI,asAddr,hc,ava]
 .change Sem.events pv (do awI (.int .u64) (<- asAddr (.pointer (C ⟨wg,0,o0⟩)))) w _=_;simp[awI,asAddr,hc,axw]
 .simp at d;subst d;exact .inl (.inr (.inr ⟨0,_,rfl⟩))
def agW{v:Nat}(M:gM s wg mu .loop k)(t:1<=v)
  (r:∀γ,gX s γ->gM γ wg mu .reg k->K γ h (.bool J))
  (l:∀γ,gX s γ->gM γ wg mu .loop k->γ.wv<=s.wv->γ.wv≠v->K γ h (.bool q9)):
  ej pv J (SM tM tW os0 Post) 175 #[.pointer (C ⟨wg,0,o0⟩),.int .u64 ((4294967296*v:Nat):Int),.int .u64 ((4294967296*v+1:Nat):Int)] s h (K:=⟨K⟩):=by
 refine wj agQ M λγ w R d W g=>.inr ?_;have i:=W.st;have j:=W.v;rw[d.ms]at i j;simp at i j;obtain⟨m,n,o,p⟩:=i;have hc:w.cell? ⟨wg,0,o0⟩=C (.int .u64 ((4294967296*γ.wv+γ.wr:Nat):Int)):=g.cellSt;have f:w.frozen? ⟨wg,0,o0⟩=q9:=g.thaw 0;rw[m]at hc;have hd:A0 k #[⟨.cell ⟨wg,0,o0⟩,q9,J⟩,⟨.cell ⟨wg,0,o0⟩,J,J⟩]=k:=by simp[A0]
 have q:A0 k #[⟨.cell ⟨wg,0,o0⟩,q9,J⟩]=k:=by simp[A0]
 by_cases a:γ.wv=v
 .have A:=au3 w (stA wg) (.int .u64 ((4294967296*v+1:Nat):Int));rw[a]at hc;refine⟨.bool J,w.setCell (stA wg) (.int .u64 ((4294967296*v+1:Nat):Int)),#[⟨.cell ⟨wg,0,o0⟩,q9,J⟩,⟨.cell ⟨wg,0,o0⟩,J,J⟩],.reg,γ.wv,1,γ.ws,?_,?_,sync_rw _,⟨A.size,λb hb=>A.block b hb,?_,A.os,A.output⟩,λe a=> ?_,⟨?_,?_⟩,wq (by rw[d.ms];simp),λc=>r _ (gX.rel R).gh (by rw[hd]at c;exact c)⟩
  .rw[awF];exact run_cas_hit_entry hc f
  .rw[awF];exact(events_cas_hit_entry hc f _).trans rfl
  .rw[a];exact g.setSt _
  .simp at a;rcases a with rfl|rfl<;>exact .inl (.inr (.inr ⟨0,_,rfl⟩))
  .show γ.wv=γ.dB av.iC+(if jx.reg=jx.eS J then 1 else 0);simp;omega
  .left;exact⟨rfl,n,p,.inl ⟨by show 0<γ.wv;omega,o⟩⟩
 .refine⟨.bool q9,w,#[⟨.cell ⟨wg,0,o0⟩,q9,J⟩],γ.ms,γ.wv,γ.wr,γ.ws,?_,?_,sync_r _,⟨rfl,λ_ _=>rfl,g,rfl,rfl⟩,λe a=> ?_,wo W,wq (by rw[d.ms];simp),λc=>l (γ.gh γ.ms γ.wv γ.wr γ.ws #[⟨.cell ⟨wg,0,o0⟩,q9,J⟩]) (gX.rel R).gh (by rw[q,d.ms]at c;rw[d.ms];exact c) ((R.z rfl).2.2.2.1) a⟩
  .rw[awF];exact run_cas_miss_entry hc f U
  .rw[awF];exact(events_cas_miss_entry hc f U _).trans rfl
  .simp at a;subst a;exact .inl (.inr (.inr ⟨0,_,rfl⟩))
def agX(M:gM s wg mu .reg k){x:Array o5}{r:List o5}(t:x=⟨.pointer (C ⟨wg,1,o0⟩)::r⟩)
  (kk:∀γ,gX s γ->gM γ wg mu .mC k->K γ h (.tuple #[])):
  ej pv J (SM tM tW os0 Post) 152 x s h (K:=⟨K⟩):=by
 subst t;refine wj agP M λγ w R i W a=> ?_;have c:=W.st;have d:=W.v;rw[i.ms]at c d;simp at c d;by_cases h0:γ.ws=0
 .left;refine⟨by unfold av.waits;rw[if_pos rfl];exact⟨i.ms,h0⟩,?_⟩;rw[h0]at a;have hc:w.cell? ⟨wg,1,o0⟩=C (.int .u32 (0:Int)):=a.cellSm;simp[awf,avR,hc]
 .right;have l:γ.ws=1/\γ.wr=0/\γ.wv=0/\γ.dB av.gO=0/\γ.dB av.ic=0:=by rcases c with c|c<;>omega
  obtain⟨m,n,o,p,q⟩:=l;rw[m]at a;have hc:w.cell? ⟨wg,1,o0⟩=C (.int .u32 (1:Int)):=a.cellSm;have f:w.frozen? ⟨wg,1,o0⟩=q9:=a.thaw 1;have A:=au3 w (smA wg) (.int .u32 0);have hd:A0 k (atL ⟨wg,1,o0⟩)=k:=by simp[A0,atL]
  refine⟨.tuple #[],w.setCell ⟨wg,1,o0⟩ (.int .u32 0),atL ⟨wg,1,o0⟩,.mC,γ.wv,γ.wr,0,?_,?_,ayW _,⟨A.size,λb hb=>A.block b hb,a.setSm 0,A.os,A.output⟩,λe j=> ?_,⟨?_,?_⟩,?_,λg=>kk _ (gX.rel R).gh (by rw[hd]at g;exact g)⟩
  .simp[awf,avR,hc,f,ayX,awg pv w ⟨wg,1,o0⟩ (.int .u32 0) .atomic rfl,ava]
  .simp[awf,avR,hc,f,atL,axw,events_store pv w _ ⟨wg,1,o0⟩ (.int .u32 0) .atomic rfl,awg pv w ⟨wg,1,o0⟩ (.int .u32 0) .atomic rfl,axY]
  .simp[atL]at j;rcases j with rfl|rfl|rfl|rfl
   .exact .inl (.inl rfl)
   .exact .inl (.inr (.inr ⟨1,_,rfl⟩))
   .exact .inl (.inr (.inr ⟨1,_,rfl⟩))
   .exact .inl (.inr (.inl rfl))
  .show γ.wv=γ.dB av.iC+(if jx.mC=jx.eS J then 1 else 0);simp;omega
  .show γ.wr=0/\γ.wv=0/\0=0/\γ.dB av.gO=0/\γ.dB av.ic=0;exact⟨n,o,rfl,p,q⟩
  .left;unfold av.waits;rw[if_pos rfl];exactλu=>h0 u.2
end
end
section
open Go.ConcM (OsLater muBlock)
open Go.ConcR (wgBlock WgAt stA smA)
section
variable{P:tb}{w:tg}{t:ta}{z:o5}
def nI(w:tg)(o:Obj):tg:= {w with heap:=w.heap.push o}
def agY(a:fw P t=C z)(es:Array R1):(zeroValue t).runT P w es=(.ok z w,es):=by
 simp only[fw]at a;simp only[zeroValue,typeInfo];cases hi:P.info? t with
 |none=>rw[hi]at a;cases a
 |some i=>rw[hi]at a;simp only[Option.bind_some]at a;rw[wb];simp[hi,a]
def Sk{α β:Type}{m:Sem α}{f:α->Sem β}{a:α}{w':tg}{es:Array R1}(h:m.runT P w #[]=(.ok a w',es)):(m >>= f).runT P w #[]=(f a).runT P w' es:=by show(m.bind f).runT P w #[]=_;rw[Sem.runT_bind',h]
def agZ(a:fw P t=C z):(Instr.alloc t J (.tuple #[])).runT P w #[]=(.ok (.pointer (C ⟨w.heap.size,0,o0⟩)) (nI w (.cells z.cells t)),#[]):=by unfold Instr.alloc;rw[Sk (agY a #[])];rfl
end
section
variable{tM tW:ta}{os0:eI}{Post:o5->tg->Prop}{s γ:av}{h:ae}{K:av->ae->o5->Prop}{n:Nat}{hs:Nat->ae}{w:tg}{t:N1}
def ag0:fw pv 203=C (.agg #[.int .i32 0,.int .u32 0]):=O
def ag1:fw pv 210=C (.agg #[.int .u64 0,.int .u32 0]):=O
structure iD(s:av):Prop where
 aG:0<s.aG
 n0:s.n0=s.aG
 on:s.on=q9
 iB:s.iB=q9
 ms:s.ms=.eS q9
 w0:s.wv=0/\s.wr=0/\s.ws=0
 bC:s.bC 0=0
def fy.Kk{sh:Nat->Prop}{mu:Addr}{aW hx:Nat->Prop}(H:fy hs n ae.empty sh mu aW w t):fy hs n ae.empty sh mu hx w t:={H with fo:= {H.fo with aT:=λb hb=>absurd hb (vZ b)}}
def tp(b:Nat->Nat):cK:= {md:=λ_=>.out,dc:=b,L:=0,K:=0,S:=0,W:=0,M:=0}
def ag2(n:Nat){f:aN->Nat}(b:f .out=0):cnt n f (λ_=>.out)=0:=by
 induction n with
 |zero=>rfl
 |succ n a=>simp only[cnt,at6]at a ⊢;rw[a,b]
def Sl(n:Nat)(b:Nat->Nat):(tp b).dF n:=by have e:∀f:aN->Nat,f .out=0->cnt n f (tp b).md=0:=λf a=>ag2 n a;refine⟨(e _ rfl).symm,by simp[tp],by simp[tp],by simp[tp],λ_=> ?_,λh=>by simp[tp]at h⟩;rw[e _ rfl,e _ rfl,e _ rfl,e _ rfl,e _ rfl];exact⟨rfl,rfl,rfl,λh=>by simp[tp]at h⟩
def iD.rel(D:iD s)(r:av.lI 0 s γ):iD γ:=by obtain⟨a,d,eZ,nM,qN⟩:=r.z rfl;obtain⟨b,c⟩:=qN (by rw[D.ms];simp);obtain⟨dH,d2,js⟩:=D.w0;exact⟨by rw[eZ];exact D.aG,by rw[r.n0,eZ];exact D.n0,r.on.trans D.on,r.iB.trans D.iB,a.trans D.ms,⟨U,c.trans d2,b.trans js⟩,r.bC.trans D.bC⟩
def av.uF(γ:av)(B b0:Nat):av:= {γ with x:=tp (λ_=>b0),cap:=γ.aG+8,mu:=B,sh:=B::γ.sh,iB:=J,b0:=b0,cN:=λ_=>[],I:=λ_ aT=>aT=ae.empty,aT:=ae.empty,cw:=o0}
def ys(t:N1)(g:B6):t++gZ 0 g #[]=t:=by show t++T1 _ _ _ #[]=t;rw[auy];simp
def c8.uF(G:c8 tM tW os0 γ n hs w t)(D:iD γ)(b0:Nat):c8 tM tW os0 (γ.uF w.heap.size b0) n hs (nI w (muBlock tM 0 0)) t:=by
 have f:γ.n0=n:=by rw[D.n0];exact G.aG
 have d:γ.gN=ae.empty:=by unfold av.gN;rw[D.on];simp
 have a:=G.hi;rw[d]at a;have c:=(a.GG (mu':=⟨w.heap.size,0,o0⟩) (vr _)).share (w':=nI w (muBlock tM 0 0)) (by simp[nI]) (λb hb=>by simp only[nI,awL];rw[if_neg U])
 have gG:(λb=>b∈γ.sh\/b=w.heap.size)=(· ∈(γ.uF w.heap.size b0).sh):=by funext b;simp only[av.uF,List.mem_cons];exact propext or_comm
 rw[gG]at c;have e:(γ.uF w.heap.size b0).gN=ae.empty:=by unfold av.gN;rw[(atz:(γ.uF w.heap.size b0).on=γ.on),D.on];simp
 exact{
  aG:=G.aG
  pos:=G.pos
  n0:=G.n0
  hi:=by rw[e];exact c.Kk
  je:=G.je
  bC:=G.bC
  old:=G.old
  jy:=λh=>by have:γ.on=J:=h;rw[D.on]at this;cases this
  jf:=λh=>by have:γ.on=J:=h;rw[D.on]at this;cases this
  gP:=λh=>by have:γ.on=J:=h;rw[D.on]at this;cases this
  ok:=Sl _ _
  cap:=by show n<=γ.aG+8;rw[G.aG];omega
  out:=λ_ _=>rfl
  cw:=λ_ h=>by cases h
  kW:=λh=>by have:γ.on=J:=h;rw[D.on]at this;cases this
  full:=λi h1 g=>by have:γ.n0<=i:=h1;omega
  hB:=⟨G.hB.v,G.hB.st⟩
  eO:=G.eO
  os:=G.os
  jZ:=λ_=>⟨List.mem_cons_self,by show(w.heap.push _)[w.heap.size]? =_;simp;rfl⟩
  j5:=λh=>by have:γ.on=J:=h;rw[D.on]at this;cases this
  kq:=λi _ _=>⟨rfl,rfl⟩}
def av.tr(γ:av)(B:Nat):av:= {γ with wg:=B,sh:=B::γ.sh,on:=J,iB:=q9,aT:=ae.empty}
structure yt(s:av)(mu b0:Nat):Prop where
 aG:0<s.aG
 n0:s.n0=s.aG
 on:s.on=q9
 iB:s.iB=J
 ms:s.ms=.eS q9
 w0:s.wv=0/\s.wr=0/\s.ws=0
 mu:s.mu=mu
 cap:s.cap=s.aG+8
 b0:s.b0=b0
 I:s.I=λ_ aT=>aT=ae.empty
 bC:s.bC 0=0
def c8.tr{mu b0:Nat}(G:c8 tM tW os0 γ n hs w t)(D:yt γ mu b0):c8 tM tW os0 (γ.tr w.heap.size) n hs (nI w (wgBlock tW 0 0)) t:=by
 have m:γ.n0=n:=by rw[D.n0];exact G.aG
 have f:γ.gN=ae.empty:=by unfold av.gN;rw[D.on];simp
 have a:=G.hi;rw[f]at a;have c:=a.share (w':=nI w (wgBlock tW 0 0)) (by simp[nI]) (λb hb=>by simp only[nI,awL];rw[if_neg U])
 have gG:(λb=>b∈γ.sh\/b=w.heap.size)=(· ∈(γ.tr w.heap.size).sh):=by funext b;simp only[av.tr,List.mem_cons];exact propext or_comm
 rw[gG]at c;obtain⟨d,g⟩:=G.jZ D.iB;have o:=G.hi.low _ d;have j:(γ.tr w.heap.size).gN=ae.empty:=by unfold av.gN;split<;>rfl
 exact{
  aG:=G.aG
  pos:=G.pos
  n0:=G.n0
  hi:=by rw[j];exact c.Kk
  je:=⟨Og G.hi.fo.low (vr _),(λi h0 hi e=>by
    exfalso;have k:i<(γ.tr w.heap.size).n0:=by show i<γ.n0;omega
    have:(γ.tr w.heap.size).eN hs i=.jn:=by unfold av.eN;rw[if_pos k]
    rw[this]at e;cases e),λi h0 hi e=>G.je.jn i h0 hi (by unfold av.eN;rw[if_pos (U:i<γ.n0)])⟩
  bC:=G.bC
  old:=G.old
  jy:=λ_=>by show(w.heap.push _)[γ.mu]? =_;rw[awL,if_neg U];exact g
  jf:=λ_=>by obtain⟨dH,d2,js⟩:=D.w0;show(w.heap.push _)[w.heap.size]? =C (wgBlock tW ((4294967296*γ.wv+γ.wr:Nat):Int) ((γ.ws:Nat):Int));rw[dH,d2,js];simp
  gP:=λ_=>⟨List.mem_cons_of_mem _ d,List.mem_cons_self,by show γ.mu≠w.heap.size;omega⟩
  ok:=G.ok
  cap:=G.cap
  out:=G.out
  cw:=G.cw
  kW:=λ_ _=>by show γ.I γ.cN ae.empty/\ae.empty.kK;rw[D.I];exact⟨rfl,by intro b x l;simp[ae.empty]at l⟩
  full:=λi h1 p=>by have:γ.n0<=i:=h1;omega
  hB:=⟨G.hB.v,G.hB.st⟩
  eO:=G.eO
  os:=G.os
  jZ:=λh=>by cases h
  j5:=λ_=>rfl
  kq:=G.kq}
end
end
section
open Go.ConcM (OsLater muBlock)
open Go.ConcR (wgBlock WgAt stA smA)
section
variable{os0:eI}{Post:o5->tg->Prop}{s γ:av}{h:ae}{K:av->ae->o5->Prop}{n:Nat}{hs:Nat->ae}{w:tg}{t:N1}{b:aS}
def Sm{main:Bool}{a:Act}{ops:Array sa}{j:Nat}{rest:List Nat}{k:List R8}{cs:List vH}{o:sa}{ty:ta}{z:o5}(d:fw pv ty=C z)(c:o.op=.alloc ty)(g:b.kind≠.early)(e:ops[j]? =C o)
  (h:R9 o (auq ops a.tmps)=J):vx pv main (B5 (b.at a (.inRegion ops (j::rest)::k)) cs) w=.go (B5 (b.at (a.put o.dst (.pointer (C ⟨w.heap.size,0,o0⟩))) (.inRegion ops rest::k)) cs) (nI w (.cells z.cells ty)) #[]:=by
 have f:(T0 a.eval o).runT pv w #[]=(.ok (.value (.pointer (C ⟨w.heap.size,0,o0⟩))) (nI w (.cells z.cells ty)),#[]):=by
  have i:T0 a.eval o=(do pure (.value (<- Instr.alloc ty J (.tuple #[]))):Sem Next):=by unfold T0;rw[c]
  rw[i,Sk (agZ d)];rfl
 have:=sz (P:=pv) (main:=main) (rest:=rest) (k:=k) (cs:=cs) e h (by unfold kS;rw[c]) g f rfl;rw[seen_none]at this;exact this
def ag3(D:iD s)(b0:Nat)(kk:∀γ B,yt γ B b0->h B=o0->γ.aG=s.aG->K γ h (.pointer (C ⟨B,0,o0⟩))):nv pv J (SM 203 210 os0 Post) b 203 s h (K:=⟨K⟩):=by
 show ∀o aA,_->_;intro o aA l;refine yo λa ops j rest k cs u y m v γ n A w t p d g=>.inr ?_;have R:=rS p D.aG;have c:=D.rel R;have q:=Sm (main:=J) (w:=w) (rest:=rest) (k:=k) (cs:=cs) ag0 l u m v;refine⟨γ.uF w.heap.size b0,_,_,#[],h,q,?_,λj i=> ?_,λj h1 E=> ?_,?_⟩
 .rw[ys,<- g,pt];exact d.uF c b0
 .refine⟨?_,Iff.rfl⟩;by_cases f:γ.aG<=j
  .exact .inl f
  .have:=d.old j U (by rw[c.n0];omega);exact .inr (.inl ⟨i,vr _,this,this⟩)
 .exfalso;have e:γ.waits j:=h1;unfold av.waits at e;split at e
  .rw[c.ms]at e;cases e.1
  .rename_i i;have r:γ.x.md j=.out:=by
    by_cases f:j<γ.aG
    .exact d.out j (.inr (.inr (by rw[d.old j U (by rw[c.n0];exact f)];simp)))
    .exact d.out j (.inr (.inl (by rw[<- d.aG];omega)))
   rw[r]at e;cases e.1
 .refine kk _ _ ⟨c.aG,c.n0,c.on,rfl,c.ms,c.w0,rfl,rfl,rfl,rfl,c.bC⟩ ?_ (R.z rfl).2.2.1;have:=In.none (d.hi.cZ 0);rw[g]at this;exact this
def yt.rel{mu b0:Nat}(D:yt s mu b0)(r:av.lI 0 s γ):yt γ mu b0:=by obtain⟨a,b,eZ,nM,qN⟩:=r.z rfl;obtain⟨c,d⟩:=qN (by rw[D.ms];simp);obtain⟨dH,d2,js⟩:=D.w0;exact⟨by rw[eZ];exact D.aG,by rw[r.n0,eZ];exact D.n0,r.on.trans D.on,r.iB.trans D.iB,a.trans D.ms,U,r.mu.trans D.mu,by rw[r.cap,eZ];exact D.cap,r.b0.trans D.b0,r.I.trans D.I,r.bC.trans D.bC⟩
structure Kl(s:av)(mu wg b0:Nat):Prop where
 m:gM s wg mu (.eS q9) 0
 n0:s.n0=s.aG
 cap:s.cap=s.aG+8
 b0:s.b0=b0
 I:s.I=λ_ aT=>aT=ae.empty
 ne:mu≠wg
def ag4{mu b0:Nat}(D:yt s mu b0)(kk:∀γ B,Kl γ mu B b0->h B=o0->γ.aG=s.aG->K γ h (.pointer (C ⟨B,0,o0⟩))):nv pv J (SM 203 210 os0 Post) b 210 s h (K:=⟨K⟩):=by
 show ∀o aA,_->_;intro o aA l;refine yo λa ops j rest k cs u y m v γ n A w t p d g=>.inr ?_;have R:=rS p D.aG;have c:=D.rel R;have q:=Sm (main:=J) (w:=w) (rest:=rest) (k:=k) (cs:=cs) ag1 l u m v;refine⟨γ.tr w.heap.size,_,_,#[],h,q,?_,λj i=> ?_,λj h1 F=> ?_,?_⟩
 .rw[ys,<- g,pt];exact d.tr c
 .refine⟨?_,Iff.rfl⟩;by_cases f:γ.aG<=j
  .exact .inl f
  .have:=d.old j U (by rw[c.n0];omega);exact .inr (.inl ⟨i,vr _,this,this⟩)
 .exfalso;have e:γ.waits j:=h1;unfold av.waits at e;split at e
  .rw[c.ms]at e;cases e.1
  .rename_i i;have r:γ.x.md j=.out:=by
    by_cases f:j<γ.aG
    .exact d.out j (.inr (.inr (by rw[d.old j U (by rw[c.n0];exact f)];simp)))
    .exact d.out j (.inr (.inl (by rw[<- d.aG];omega)))
   rw[r]at e;cases e.1
 .have E:=d.hi.low _ (d.jZ c.iB).1;refine kk _ _ ⟨⟨rfl,c.aG,c.ms,c.bC,rfl,c.mu⟩,c.n0,c.cap,c.b0,c.I,by rw[<- c.mu];omega⟩ ?_ (R.z rfl).2.2.1;have:=In.none (d.hi.cZ 0);rw[g]at this;exact this
def c8.zC{tM tW:ta}{mu wg b0 k:Nat}(G:c8 tM tW os0 γ n hs w t)(d:γ.on=J)(p:γ.n0=γ.aG)(r:γ.I=λ_ aT=>aT=ae.empty){gd':ae}{I:(Nat->List cV)->ae->Prop}{full:Nat->List cV}
  (s:∀b x,gd' b=C x->hs 0 b=C x) (m:gd'.kK) (u:I (λ_=>[]) gd'):
  c8 tM tW os0 {γ with aT:=gd',I:=I,full:=full,cN:=λ_=>[]} n (cA hs 0 ((hs 0).del gd')) w t:=by
 have y:∀j,0<j->γ.x.md j=.out:=λj e=>by
  by_cases z:j<γ.aG
  .exact G.out j (.inr (.inr (by rw[G.old j e (by rw[p];exact z)];simp)))
  .exact G.out j (.inr (.inl (by rw[<- G.aG];omega)))
 have a:γ.cw=o0:=by
  cases A:γ.cw with
  |none=>rfl
  |some q=>
   obtain⟨K,c⟩:=G.cw q A;by_cases h0:q=0
   .subst h0;rw[G.out 0 (.inl rfl)]at c;cases c
   .rw[y q U]at c;cases c
 have B:γ.aT=ae.empty:=by have:=(G.kW d a).1;rw[r]at this;exact this
 have D:γ.gN=ae.empty:=by unfold av.gN;rw[if_pos ⟨d,a⟩];exact B
 have f:=G.hi;rw[D]at f;have l:γ.aW=λg=>g=0:=by funext j;unfold av.aW;refine propext ⟨λh=>h.elim id λh=>by omega,.inl⟩
 rw[l]at f;have H:=f.zC G.pos s m;have E:({γ with aT:=gd',I:=I,full:=full,cN:=λ_=>[]}:av).gN=gd':=by unfold av.gN;rw[if_pos ⟨d,a⟩]
 have F:({γ with aT:=gd',I:=I,full:=full,cN:=λ_=>[]}:av).aW=λg=>g=0:=l;exact{
  aG:=G.aG
  pos:=G.pos
  n0:=G.n0
  hi:=by rw[E,F];exact H
  je:=by refine G.je.weaken λi h0=>.inl ?_;unfold av.eN;rw[gn _ _ U]
  bC:=G.bC
  old:=G.old
  jy:=G.jy
  jf:=G.jf
  gP:=G.gP
  ok:=G.ok
  cap:=G.cap
  out:=G.out
  cw:=λi hi=>by rw[(atz:({γ with aT:=gd',I:=I,full:=full,cN:=λ_=>[]}:av).cw=γ.cw),a]at hi;cases hi
  kW:=λ_ _=>⟨u,m⟩
  full:=λi h1 o=>by have L:γ.n0<=i:=h1;have:=G.aG;omega
  hB:=⟨G.hB.v,G.hB.st⟩
  eO:=λj h0 e=>by rw[gn _ _ U];exact G.eO j h0 e
  os:=G.os
  jZ:=G.jZ
  j5:=G.j5
  kq:=λi h1 o=>⟨rfl,(G.kq i h1 o).2⟩}
end
end
end
end Go.Nk
