/- Part Paa of the proof of ButtTexts: lemmas. -/
import Derived.Conc.Listed
import Derived.Conc.Own5
import Derived.Conc.Beside
import Derived.Conc.LockTrace
set_option maxRecDepth 100000
set_option maxHeartbeats 4000000
set_option linter.all false
namespace Go.Proofs
end Go.Proofs
namespace Go.Nk
noncomputable section
open Go Go.Conc Go.Proofs
open _root_.Array renaming getElem?_modify->ayk,mem_append->awK,getElem?_push->awL,mem_of_getElem?->axF
open Bool renaming false->q9,true->J,false_eq_true->N2
open Go renaming World->tg,Addr->vm,Value->o5,TypeId->ta,Program->tb,Event->R1,FuncId->vb,Item->R8,Frame->vH,Goroutine->B6,stepG->vx,Operand->su,Code->rj,exitTo->avX,Oper->sa,yielded->auq,undef->vk,execOp->T0,Trace->N1,MemOp->auw,HappensBefore->aA5
open Go.Conc renaming Deaf->T5,touchAt->awP,touch_of->axd,getElem?_append_cases->avk,touchAt_of->ayq,knows_own->azs,lt_of_act?->ayr,act?_old->ays,heard_old->ayt,NoRelease->ayu,noRace_append->azt,act?_of->axG,deaf_old->ayv
open Go.GStep renaming after->atZ
open Go.MemAct renaming touch?->at2,low_mono->aA3
open Go.Region renaming schedule->atM,wanted->R9
open Go.Sem renaming runT->auD,bind->auO
open Go.World renaming setCell->azo,freeze->awM
open Go.stepG renaming exec->atK,apply->axb
open Nat renaming le_refl->vr,le_trans->atD,lt_of_lt_of_le->auj,lt_or_ge->vy
open Option renaming some->C,none->o0,isSome_iff_exists->aud,map_some->avb,map_eq_some_iff->au5
open Option.some renaming inj->T6,injEq->W6
def U{p:Prop}(h:p:=by omega):p:=h
def Y{p:Prop}(h:p:=by simp):p:=h
def O{p:Prop}(h:p:=by kernel_rfl):p:=h
def aty{p:Prop}(h:p:=by decide):p:=h
def atz{p:Prop}(h:p:=by exact rfl):p:=h
def atB{p:Prop}(h:p:=by simp;omega):p:=h
structure dL where
 obj:Obj
 own:Bool
abbrev ae:=Nat->Option dL
namespace ae
def In(h:ae)(w:tg):Prop:=∀b x,h b=C x->w.heap[b]? =C x.obj
def put(h:ae)(b:Nat)(x:dL):ae:=λc=>if c=b then C x else h c
def cell?(h:ae)(a:vm):Option o5:=match h a.block with
 |some ⟨.cells c _ _,_⟩=>if a.spot.isSome then o0 else c[a.off]?
 |_=>o0
def shape?(h:ae)(r:Nat):Option (ta×Nat):=match h r with
 |some ⟨.cells c t _,_⟩=>C (t,c.size)
 |_=>o0
def frozen?(h:ae)(a:vm):Bool:=match h a.block with
 |some ⟨.cells _ _ (lo,hi),_⟩=>lo<=a.off&&a.off<hi
 |_=>q9
def owns(h:ae)(b:Nat):Bool:=match h b with|some x=>x.own|none=>q9
def setCell(h:ae)(a:vm)(v:o5):ae:=match h a.block with
 |some ⟨.cells c t f,p⟩=>h.put a.block ⟨.cells (if a.spot.isSome then c else c.setIfInBounds a.off v) t f,p⟩
 |_=>h
def freeze(h:ae)(a:vm)(n:Nat):ae:=if n=0 then h else
 match h a.block with
 |some ⟨.cells c t (lo,hi),p⟩=>h.put a.block ⟨.cells c t (if lo==hi then(a.off,a.off+n)else(min lo a.off,max hi (a.off+n))),p⟩
 |_=>h
def mn:Obj->Bool
 | .cells .. =>q9
 |_=>J
def ar(h h':ae):Prop:=∀b x,h b=C x->h' b=C x
end ae
def jG:o5->Bool
 | .agg _|.tuple _=>q9
 |_=>J
def mo:Mark->Bool
 | .acquire _|.release _|.releaseMerge _|.disable|.enable|.read _|.write _=>q9
 |_=>J
def aH(P:tb){α:Type}:Sem α->ae->(α->ae->Prop)->Prop
 | .pure a,h,Q=>Q a h
 | .load m a k,h,Q=>m=.plain/\match h.cell? a with
  |some v=>aH P (k v) h Q
  |none=>False
 | .store m a v k,h,Q=>m=.plain/\jG v=J/\h.owns a.block=J/\(h.cell? a).isSome=J/\h.frozen? a=q9/\aH P k (h.setCell a v) Q
 | .new o k,h,Q=>∀b,h b=o0->aH P (k b) (h.put b ⟨o,J⟩) Q
 | .shape r k,h,Q=>(h r).isSome=J/\aH P (k (h.shape? r)) h Q
 | .freeze a n k,h,Q=>h.owns a.block=J/\(h.shape? a.block).isSome=J/\aH P k (h.freeze a n) Q
 | .frozen a k,h,Q=>(h a.block).isSome=J/\aH P (k (h.frozen? a)) h Q
 | .getObj r k,h,Q=>match h r with
  |some x=>ae.mn x.obj=J/\x.obj.isChan=q9/\aH P (k x.obj) h Q
  |none=>False
 | .setObj r o k,h,Q=>match h r with
  |some x=>ae.mn x.obj=J/\o.isChan=q9/\x.own=J/\aH P k (h.put r ⟨o,J⟩) Q
  |none=>False
 | .choose q k,h,Q=>if q.forced then aH P (k 0) h Q else ∀t,aH P (k (q.cut t)) h Q
 | .sys _ _,_,_=>False
 | .program k,h,Q=>aH P (k P) h Q
 | .mark m k,h,Q=>mo m=J/\aH P k h Q
 | .halt _,_,_=>False
def tR(h:ae)(e:R1):Prop:=match e.loc with
 | .cell a=>e.sync=q9/\∃x,h a.block=C x/\(e.write=J->x.own=J)
 | .obj r=>e.sync=q9/\∃x,h r=C x/\(e.write=J->x.own=J)
 | .mark m=>mo m=J
 |_=>False
structure kD(h:ae)(w:tg)(h':ae)(w':tg):Prop where
 tape:w'.tape=w.tape
 os:w'.os=w.os
 output:w'.output=w.output
 size:w.heap.size<=w'.heap.size
 other:∀b,b<w.heap.size->h.owns b=q9->w'.heap[b]? =w.heap[b]?
 ro:∀b x,h b=C x->x.own=q9->h' b=C x
 ext:∀b x,h b=C x->∃x',h' b=C x'/\x'.own=x.own
 fresh:∀b x',h' b=C x'->h b=o0->w.heap.size<=b/\b<w'.heap.size/\x'.own=J
def NZ{h:ae}{b:Nat}(e:h b=o0):h.owns b=q9:=by simp[ae.owns,e]
def xb{h:ae}{b:Nat}{x:dL}(e:h b=C x):h.owns b=x.own:=by simp[ae.owns,e]
def kD.refl(h:ae)(w:tg):kD h w h w:=⟨rfl,rfl,rfl,vr _,λ_ _ _=>rfl,λ_ _ e _=>e,λ_ x e=>⟨x,e,rfl⟩,λb x' e n=>by rw[n]at e;cases e⟩
def kD.owns{h h':ae}{w w':tg}(f:kD h w h' w'){b:Nat}(hb:b<w.heap.size)(e:h.owns b=q9):h'.owns b=q9:=by
 cases a:h b with
 |none=>
  cases c:h' b with
  |none=>exact NZ c
  |some x'=>have:=f.fresh b x' c a;omega
 |some x=>obtain⟨x',d,g⟩:=f.ext b x a;rw[xb d,g,<- xb a,e]
def kD.trans{h h₁ l:ae}{w w₁ m:tg}(f:kD h w h₁ w₁)(g:kD h₁ w₁ l m):kD h w l m:=by
 refine⟨g.tape.trans f.tape,g.os.trans f.os,g.output.trans f.output,atD f.size g.size,λb hb e=> ?_,λb x e o=>g.ro b x (f.ro b x e o) o,λb x e=> ?_,λb x' e n=> ?_⟩
 .rw[g.other b (auj hb f.size) (f.owns hb e),f.other b hb e]
 .obtain⟨a,q,r⟩:=f.ext b x e;obtain⟨p,c,d⟩:=g.ext b a q;exact⟨p,c,d.trans r⟩
 .cases i:h₁ b with
  |none=>obtain⟨h1,j,k⟩:=g.fresh b x' e i;exact⟨atD f.size h1,j,k⟩
  |some a=>obtain⟨h1,j,k⟩:=f.fresh b a i n;obtain⟨p,c,d⟩:=g.ext b a i;rw[e]at c;obtain rfl:=T6 c;exact⟨h1,auj j g.size,d.trans k⟩
section
variable{h:ae}{w:tg}
def In.cell{a:vm}{v:o5}(hi:h.In w)(hc:h.cell? a=C v):w.cell? a=C v:=by
 unfold ae.cell? at hc;split at hc
 .rename_i c t f p b;have:=hi _ _ b;simp only[World.cell?,this];exact hc
 .cases hc
def In.frozen{a:vm}(hi:h.In w)(b:(h a.block).isSome=J):w.frozen? a=h.frozen? a:=by obtain⟨x,b⟩:=aud.1 b;have:=hi _ _ b;obtain⟨o,p⟩:=x;simp only[World.frozen?,ae.frozen?,this,b];cases o<;>rfl
def In.shape{r:Nat}(hi:h.In w)(a:(h r).isSome=J):w.shape? r=h.shape? r:=by obtain⟨x,a⟩:=aud.1 a;have:=hi _ _ a;obtain⟨o,p⟩:=x;simp only[World.shape?,ae.shape?,this,a];cases o<;>rfl
def In.lt{b:Nat}{x:dL}(hi:h.In w)(a:h b=C x):b<w.heap.size:=by have:=hi b x a;exact(Array.getElem?_eq_some_iff.1 this).1
def In.none(hi:h.In w):h w.heap.size=.none:=by
 cases a:h w.heap.size with
 |none=>rfl
 |some x=>exact absurd (In.lt hi a) (Nat.lt_irrefl _)
end
@[simp] theorem rv (h:ae) (b:Nat) (x:dL):h.put b x b=C x:=by simp[ae.put]
def oe(h:ae){b c:Nat}(x:dL)(a:c≠b):h.put b x c=h c:=by simp[ae.put,a]
def N7{h:ae}{a:vm}(hs:(h.cell? a).isSome=J):∃c t f p,h a.block=C ⟨.cells c t f,p⟩:=by
 unfold ae.cell? at hs;split at hs
 .rename_i c t f p b;exact⟨c,t,f,p,b⟩
 .cases hs
def N8{h:ae}{a:vm}{v:o5}{c:Array o5}{t:ta}{f:Nat×Nat}{p:Bool}(b:h a.block=C ⟨.cells c t f,p⟩):h.setCell a v=h.put a.block ⟨.cells (if a.spot.isSome then c else c.setIfInBounds a.off v) t f,p⟩:=by
 unfold ae.setCell;rw[b]
def In.Gw{h:ae}{w w':tg}{b:Nat}{x:dL}(hi:h.In w)(hb:w'.heap[b]? =C x.obj)(d:∀c,c≠b->w'.heap[c]? =w.heap[c]?):(h.put b x).In w':=by
 intro c y a;by_cases hc:c=b
 .subst hc;rw[rv]at a;cases a;exact hb
 .rw[oe _ _ hc]at a;rw[d c hc];exact hi c y a
def Gx{h:ae}{w w':tg}{b:Nat}{x x':dL}(hb:h b=C x)(d:x.own=J)(f:x'.own=J)(g:w'.tape=w.tape)(i:w'.os=w.os)(j:w'.output=w.output)
  (hs:w'.heap.size=w.heap.size) (k:∀c,c≠b->w'.heap[c]? =w.heap[c]?):kD h w (h.put b x') w':=by
 refine⟨g,i,j,Nat.le_of_eq hs.symm,λc hc e=> ?_,λc y e o=> ?_,λc y e=> ?_,λc l e n=> ?_⟩
 .by_cases a:c=b
  .subst a;rw[xb hb,d]at e;cases e
  .exact k c a
 .by_cases a:c=b
  .subst a;rw[hb]at e;cases e;rw[d]at o;cases o
  .rw[oe _ _ a];exact e
 .by_cases a:c=b
  .subst a;rw[hb]at e;cases e;exact⟨x',rv ..,f.trans d.symm⟩
  .exact⟨y,by rw[oe _ _ a];exact e,rfl⟩
 .by_cases a:c=b
  .subst a;rw[hb]at n;cases n
  .rw[oe _ _ a]at e;rw[n]at e;cases e
def X3(w:tg)(a:vm)(v:o5){c:Array o5}{t:ta}{f:Nat×Nat}(d:w.heap[a.block]? =C (.cells c t f)):(w.setCell a v).heap[a.block]? =C (.cells (if a.spot.isSome then c else c.setIfInBounds a.off v) t f)/\∀b,b≠a.block->(w.setCell a v).heap[b]? =w.heap[b]? :=by
 refine⟨?_,λb hb=> ?_⟩
 .simp only[azo,ayk,if_true,d,avb]
 .simp only[azo,ayk,if_neg (Ne.symm hb)]
def BG(P:tb){α:Type}(m:Sem α):∀(h:ae) (Q:α->ae->Prop) (w:tg) (es:Array R1),h.In w->aH P m h Q->∃a w' h' j,m.runT P w es=(.ok a w',es++j)/\Q a h'/\h'.In w'/\kD h w h' w'/\∀e∈j,tR h' e:=by
 induction m with
 |pure a=>exactλh Q w es hi k=>⟨a,w,h,#[],by simp[auD],k,hi,.refl _ _,Y⟩
 |load m a k B=>
  intro h Q w es hi d;rw[aH]at d;obtain⟨rfl,d⟩:=d;cases hc:h.cell? a with
  |none=>rw[hc]at d;exact d.elim
  |some v=>
   rw[hc]at d;obtain⟨b,w',h',j,l,u,z,i,A⟩:=B v h Q w (es.push ⟨.cell a,q9,q9⟩) hi d;obtain⟨c,t,f,p,s⟩:=N7 (h:=h) (a:=a) (by rw[hc];rfl);refine⟨b,w',h',#[⟨.cell a,q9,q9⟩]++j,?_,u,z,i,λe g=> ?_⟩
   .simp only[auD,In.cell hi hc];rw[(atz:(Mode.plain==Mode.atomic)=q9),l];simp
   .rcases awK.1 g with g|g
    .simp at g;subst g;obtain⟨x',I,_⟩:=i.ext _ _ s;exact⟨rfl,x',I,λhw=>by cases hw⟩
    .exact A e g
 |store m a v k B=>
  intro h Q w es hi d;rw[aH]at d;obtain⟨rfl,h1,M,hs,hf,d⟩:=d;obtain⟨c,t,f,p,s⟩:=N7 hs;have hp:p=J:=by rw[xb s]at M;exact M
  subst hp;obtain⟨v0,az⟩:=aud.1 hs;have E:=hi _ _ s;obtain⟨R,H⟩:=X3 w a v (c:=c) (t:=t) (f:=f) E;have af:=N8 (v:=v) s;have K:(h.setCell a v).In (w.setCell a v):=by rw[af];exact In.Gw hi R H
  have S:kD h w (h.setCell a v) (w.setCell a v):=by rw[af];exact Gx s rfl rfl rfl rfl rfl (by simp[azo]) H
  obtain⟨b,w',h',j,l,u,z,i,A⟩:=B (h.setCell a v) Q (w.setCell a v) (es.push ⟨.cell a,J,q9⟩) K d;refine⟨b,w',h',#[⟨.cell a,J,q9⟩]++j,?_,u,z,S.trans i,λe g=> ?_⟩
  .have a6:w.frozen? a=q9:=by rw[In.frozen hi (by rw[s];rfl)];exact hf
   have a7:k.runT P (w.setCell a v) (es.push ⟨.cell a,J,Mode.plain==Mode.atomic⟩)=_:=l;cases v<;>simp[jG]at h1<;>simp only[auD,In.cell hi az,a6,N2,if_false]<;>rw[a7]<;>simp
  .rcases awK.1 g with g|g
   .simp at g;subst g;obtain⟨x',I,L⟩:=(S.trans i).ext _ _ s;exact⟨rfl,x',I,λ_=>L⟩
   .exact A e g
 |new o k B=>
  intro h Q w es hi d;have D:=In.none hi;have a8:=d w.heap.size D;have K:(h.put w.heap.size ⟨o,J⟩).In {w with heap:=w.heap.push o}:=by
   intro c y N;by_cases hc:c=w.heap.size
   .subst hc;rw[rv]at N;cases N;simp
   .rw[oe _ _ hc]at N;have:=In.lt hi N;have e:=hi c y N;simp only[awL,if_neg hc];exact e
  obtain⟨b,w',h',j,l,u,z,i,A⟩:=B _ _ Q {w with heap:=w.heap.push o} es K a8;refine⟨b,w',h',j,by simp only[auD];exact l,u,z,kD.trans ?_ i,A⟩;refine⟨rfl,rfl,rfl,Y,λc hc _=> ?_,λc y e L=> ?_,λc y e=> ?_,λc y' e n=> ?_⟩
  .simp only[awL];rw[if_neg (Nat.ne_of_lt hc)]
  .by_cases G:c=w.heap.size
   .subst G;rw[D]at e;cases e
   .rw[oe _ _ G];exact e
  .by_cases G:c=w.heap.size
   .subst G;rw[D]at e;cases e
   .exact⟨y,by rw[oe _ _ G];exact e,rfl⟩
  .by_cases G:c=w.heap.size
   .subst G;rw[rv]at e;cases e;exact⟨vr _,Y,rfl⟩
   .rw[oe _ _ G,n]at e;cases e
 |shape r k B=>intro h Q w es hi d;obtain⟨hs,d⟩:=d;obtain⟨b,w',h',j,l,u,z,i,A⟩:=B _ h Q w es hi d;exact⟨b,w',h',j,by simp only[auD,In.shape hi hs];exact l,u,z,i,A⟩
 |freeze a n k B=>
  intro h Q w es hi d;rw[aH]at d;obtain⟨M,gG,d⟩:=d;have F:(h.freeze a n).In (w.freeze a n)/\kD h w (h.freeze a n) (w.freeze a n):=by
   by_cases D:n=0
   .simp only[ae.freeze,awM,if_pos D];exact⟨hi,.refl _ _⟩
   .obtain⟨c,t,lo,F,p,s⟩:∃c t lo F p,h a.block=C ⟨.cells c t (lo,F),p⟩:=by
     unfold ae.shape? at gG;split at gG
     .rename_i c t f p s;exact⟨c,t,f.1,f.2,p,s⟩
     .cases gG
    have hp:p=J:=by rw[xb s]at M;exact M
    subst hp;have E:=hi _ _ s;have l:h.freeze a n=h.put a.block ⟨.cells c t (if lo==F then(a.off,a.off+n)else(min lo a.off,max F (a.off+n))),J⟩:=by unfold ae.freeze;rw[if_neg D,s]
    have R:(w.freeze a n).heap[a.block]? =C (.cells c t (if lo==F then(a.off,a.off+n)else(min lo a.off,max F (a.off+n)))):=by simp only[awM,if_neg D,ayk,if_true,E,avb]
    have H:∀b,b≠a.block->(w.freeze a n).heap[b]? =w.heap[b]? :=λb hb=>by simp only[awM,if_neg D,ayk,if_neg (Ne.symm hb)]
    rw[l];exact⟨In.Gw hi R H,Gx s rfl rfl (by simp[awM,D]) (by simp[awM,D]) (by simp[awM,D]) (by simp[awM,D]) H⟩
  obtain⟨b,w',h',j,l,u,z,i,A⟩:=B (h.freeze a n) Q (w.freeze a n) es F.1 d;exact⟨b,w',h',j,by simp only[auD];exact l,u,z,F.2.trans i,A⟩
 |frozen a k B=>intro h Q w es hi d;obtain⟨hs,d⟩:=d;obtain⟨b,w',h',j,l,u,z,i,A⟩:=B _ h Q w es hi d;exact⟨b,w',h',j,by simp only[auD,In.frozen hi hs];exact l,u,z,i,A⟩
 |getObj r k B=>
  intro h Q w es hi d;cases s:h r with
  |none=>rw[aH,s]at d;exact d.elim
  |some x=>
   rw[aH,s]at d;obtain⟨hc,W,d⟩:=d;have E:=hi _ _ s;obtain⟨b,w',h',j,l,u,z,i,A⟩:=B x.obj h Q w (es.push ⟨.obj r,q9,q9⟩) hi d;refine⟨b,w',h',#[⟨.obj r,q9,q9⟩]++j,?_,u,z,i,λe g=> ?_⟩
   .obtain⟨o,p⟩:=x;simp only at hc W E l;cases o<;>simp[ae.mn]at hc<;>simp only[auD,E,W]<;>rw[l]<;>simp
   .rcases awK.1 g with g|g
    .simp at g;subst g;obtain⟨x',I,_⟩:=i.ext _ _ s;exact⟨rfl,x',I,λhw=>by cases hw⟩
    .exact A e g
 |setObj r o k B=>
  intro h Q w es hi d;cases s:h r with
  |none=>rw[aH,s]at d;exact d.elim
  |some x=>
   rw[aH,s]at d;obtain⟨hc,W,ba,d⟩:=d;have E:=hi _ _ s;have bb:=In.lt hi s;have R:({w with heap:=w.heap.setIfInBounds r o}:tg).heap[r]? =C o:=by simp[bb]
   have H:∀b,b≠r->({w with heap:=w.heap.setIfInBounds r o}:tg).heap[b]? =w.heap[b]? :=λb hb=>by simp[Array.getElem?_setIfInBounds_ne (Ne.symm hb)]
   have K:(h.put r ⟨o,J⟩).In {w with heap:=w.heap.setIfInBounds r o}:=In.Gw hi R H;have S:kD h w (h.put r ⟨o,J⟩) {w with heap:=w.heap.setIfInBounds r o}:=Gx s ba rfl rfl rfl rfl Y H;obtain⟨b,w',h',j,l,u,z,i,A⟩:=B (h.put r ⟨o,J⟩) Q {w with heap:=w.heap.setIfInBounds r o} (es.push ⟨.obj r,J,q9⟩) K d;refine⟨b,w',h',#[⟨.obj r,J,q9⟩]++j,?_,u,z,S.trans i,λe g=> ?_⟩
   .obtain⟨L,p⟩:=x;simp only at hc E;cases L<;>simp[ae.mn]at hc<;>simp only[auD,E,W]<;>rw[l]<;>simp
   .rcases awK.1 g with g|g
    .simp at g;subst g;obtain⟨x',I,L⟩:=i.ext _ _ (rv h r ⟨o,J⟩);exact⟨rfl,x',I,λ_=>L⟩
    .exact A e g
 |choose q k B=>
  intro h Q w es hi d;rw[aH]at d;by_cases X:q.forced=J
  .rw[if_pos X]at d;obtain⟨b,w',h',j,l,u,z,i,A⟩:=B 0 h Q w es hi d;exact⟨b,w',h',j,by simp only[auD,X,if_true];exact l,u,z,i,A⟩
  .rw[if_neg X]at d;have K:h.In {w with drawn:=w.drawn+1}:=hi;obtain⟨b,w',h',j,l,u,z,i,A⟩:=B _ h Q {w with drawn:=w.drawn+1} es K (d (w.tape w.drawn q));refine⟨b,w',h',j,by simp only[auD,X,N2,if_false];exact l,u,z,kD.trans (w₁:= {w with drawn:=w.drawn+1}) (h₁:=h) ⟨rfl,rfl,rfl,vr _,λ_ _ _=>rfl,λ_ _ e _=>e,λ_ x e=>⟨x,e,rfl⟩,λb x' e n=>by rw[n]at e;cases e⟩ i,A⟩
 |sys c k=>exactλh Q w es hi d=>d.elim
 |program k B=>intro h Q w es hi d;obtain⟨b,w',h',j,l,u,z,i,A⟩:=B P h Q w es hi d;exact⟨b,w',h',j,by simp only[auD];exact l,u,z,i,A⟩
 |mark m k B=>
  intro h Q w es hi d;obtain⟨hm,d⟩:=d;obtain⟨b,w',h',j,l,u,z,i,A⟩:=B h Q w (es.push ⟨.mark m,q9,J⟩) hi d;refine⟨b,w',h',#[⟨.mark m,q9,J⟩]++j,by simp only[auD];rw[l];simp,u,z,i,λe g=> ?_⟩;rcases awK.1 g with g|g
  .simp at g;subst g;exact hm
  .exact A e g
 |halt x=>exactλh Q w es hi d=>d.elim
section
variable(P:tb){α β:Type}(h:ae)
def lq(m:Sem α):∀{h:ae} {Q R:α->ae->Prop},(∀a h',Q a h'->R a h')->aH P m h Q->aH P m h R:=by
 induction m with
 |pure a=>exactλk q=>k _ _ q
 |load m a k d=>
  intro h Q R e l;rw[aH]at l ⊢;refine⟨l.1,?_⟩;have g:=l.2;cases hc:h.cell? a with
  |none=>rw[hc]at g;exact g
  |some v=>rw[hc]at g;exact d v e g
 |store m a v k d=>exactλe ⟨a1,a2,a3,j,p,l⟩=>⟨a1,a2,a3,j,p,d e l⟩
 |new o k d=>exactλe l b hb=>d b e (l b hb)
 |shape r k d=>exactλe ⟨a,l⟩=>⟨a,d _ e l⟩
 |freeze a n k d=>exactλe ⟨a,b,l⟩=>⟨a,b,d e l⟩
 |frozen a k d=>exactλe ⟨a,l⟩=>⟨a,d _ e l⟩
 |getObj r k d=>
  intro h Q R e l;rw[aH]at l ⊢;cases f:h r with
  |none=>rw[f]at l;exact l
  |some x=>rw[f]at l;exact⟨l.1,l.2.1,d _ e l.2.2⟩
 |setObj r o k d=>
  intro h Q R e l;rw[aH]at l ⊢;cases f:h r with
  |none=>rw[f]at l;exact l
  |some x=>rw[f]at l;exact⟨l.1,l.2.1,l.2.2.1,d e l.2.2.2⟩
 |choose q k d=>
  intro h Q R e l;rw[aH]at l ⊢;split
  .rename_i i;rw[if_pos i]at l;exact d _ e l
  .rename_i i;rw[if_neg i]at l;exactλt=>d _ e (l t)
 |sys c k=>exactλ_ l=>l
 |program k d=>exactλe l=>d _ e l
 |mark m k d=>exactλe ⟨a,l⟩=>⟨a,d e l⟩
 |halt x=>exactλ_ l=>l
def N9(m:Sem α)(f:α->Sem β):∀(h:ae) (Q:β->ae->Prop),aH P (m.bind f) h Q=aH P m h λa h'=>aH P (f a) h' Q:=by
 induction m with
 |pure a=>exactλh Q=>rfl
 |load m a k b=>intro h Q;simp only[auO,aH,b]
 |store m a v k b=>intro h Q;simp only[auO,aH,b]
 |new o k b=>intro h Q;simp only[auO,aH,b]
 |shape r k b=>intro h Q;simp only[auO,aH,b]
 |freeze a n k b=>intro h Q;simp only[auO,aH,b]
 |frozen a k b=>intro h Q;simp only[auO,aH,b]
 |getObj r k b=>intro h Q;simp only[auO,aH,b]
 |setObj r o k b=>intro h Q;simp only[auO,aH,b]
 |choose q k b=>intro h Q;simp only[auO,aH,b]
 |sys c k=>intro h Q;simp only[auO,aH]
 |program k b=>intro h Q;simp only[auO,aH,b]
 |mark m k b=>intro h Q;simp only[auO,aH,b]
 |halt x=>intro h Q;simp only[auO,aH]
def aJ(m:Sem α)(f:α->Sem β)(Q:β->ae->Prop):aH P (m >>= f) h Q=aH P m h λa h'=>aH P (f a) h' Q:=N9 P m f h Q
def Gy(m:Sem α)(f:α->β)(Q:β->ae->Prop):aH P (Functor.map f m) h Q=aH P m h λa h'=>Q (f a) h':=by show aH P (m.bind _) h Q=_;rw[N9];rfl
def aR(a:α)(Q:α->ae->Prop):aH P (Pure.pure a:Sem α) h Q=Q a h:=rfl
def Gz(c:Prop)[Decidable c](x y:Sem α)(Q:α->ae->Prop):aH P (if c then x else y) h Q=if c then aH P x h Q else aH P y h Q:=by split<;>rfl
def mq(Q:tb->ae->Prop):aH P program h Q=Q P h:=rfl
def Oa(m:Mark)(Q:Unit->ae->Prop):aH P (mark m) h Q=(mo m=J/\Q () h):=rfl
def qo(o:Obj)(Q:Nat->ae->Prop):aH P (newObj o) h Q=∀b,h b=o0->Q b (h.put b ⟨o,J⟩):=rfl
def xc(q:Question)(Q:Nat->ae->Prop):aH P (choose q) h Q=if q.forced then Q 0 h else ∀t,Q (q.cut t) h:=rfl
end
structure aS where
 fn:vb
 kind:CallKind:=.normal
 ro:Option Nat:=o0
def aS.at(b:aS)(a:Act)(k:List R8):vH:= {fn:=b.fn,tmps:=a.tmps,todo:=k,defers:=a.defers,mode:=.run,kind:=b.kind,roundOf:=b.ro}
structure Sys(ai:Type) where
 j9:ai->ae->B6->(ai->ae->B6->Prop)->Prop
 mono:∀{s h g} {X Y:ai->ae->B6->Prop},(∀s h g,X s h g->Y s h g)->j9 s h g X->j9 s h g Y
section
variable(P:tb)(main:Bool)
def xd(h:ae)(g:B6)(X:ae->B6->Prop):Prop:=g.status=.running/\∀w,h.In w->∃a w' es h',vx P main g w=.go a w' es/\h'.In w'/\kD h w h' w'/\(∀e∈es,tR h' e)/\X h' a
variable{ai:Type}(S:Sys ai)
def dv(Q:ai->ae->B6->Prop)(s:ai)(h:ae)(g:B6):Prop:=∀X:ai->ae->B6->Prop,(∀s h g,Q s h g->X s h g)->(∀s h g,xd P main h g (X s)->X s h g)->(∀s h g,S.j9 s h g X->X s h g)->X s h g
end
section
variable{P:tb}{main:Bool}{ai:Type}{S:Sys ai}{Q R:ai->ae->B6->Prop}{s:ai}{h:ae}{g:B6}
def xd.mono{X Y:ae->B6->Prop}(a:∀h g,X h g->Y h g)(l:xd P main h g X):xd P main h g Y:=⟨l.1,λw b=>let⟨c,w',es,h',d,e,f,i,j⟩:=l.2 w b;⟨c,w',es,h',d,e,f,i,a _ _ j⟩⟩
def dv.done(q:Q s h g):dv P main S Q s h g:=λ_ x _ _=>x _ _ _ q
def dv.step(l:xd P main h g (dv P main S Q s)):dv P main S Q s h g:=λX x y z=>y _ _ _ (l.mono λ_ _ r=>r X x y z)
def dv.sync(l:S.j9 s h g (dv P main S Q)):dv P main S Q s h g:=λX x y z=>z _ _ _ (S.mono (λ_ _ _ r=>r X x y z) l)
def dv.iG{g':B6}(a:g.status=.running)(hs:∀w,vx P main g w=.go g' w #[])(r:dv P main S Q s h g'):dv P main S Q s h g:= .step ⟨a,λw b=>⟨g',w,#[],h,hs w,b,.refl _ _,Y,r⟩⟩
end
section
variable{P:tb}{main:Bool}{b:aS}{a:Act}{k:List R8}{cs:List vH}{w:tg}
def aS.eval(x:su)(todo:List R8):(b.at a todo).eval x=a.eval x:=by cases x<;>rfl
def aS.BH(todo:List R8):(b.at a todo).eval=a.eval:=funext λx=>aS.eval x todo
def X4:vx P main (G (b.at a (.code .skip::k)) cs) w=.go (G (b.at a k) cs) w:=by simp[G,vx,atK,aS.at]
def X5{l:Nat}:vx P main (G (b.at a (.code (.label l)::k)) cs) w=.go (G (b.at a k) cs) w:=by simp[G,vx,atK,aS.at]
def X6{id:Nat}:vx P main (G (b.at a (.inBlock id::k)) cs) w=.go (G (b.at a k) cs) w:=by simp[G,vx,atK,aS.at]
def X7{c:rj}:vx P main (G (b.at a (.inScope c::k)) cs) w=.go (G (b.at a k) cs) w:=by simp[G,vx,atK,aS.at]
def X8{x y:rj}:vx P main (G (b.at a (.code (.seq x y)::k)) cs) w=.go (G (b.at a (.code x::.code y::k)) cs) w:=by simp[G,vx,atK,aS.at]
def Ob{c:su}{x y:rj}{t:Bool}(h:a.eval c=.bool t):vx P main (G (b.at a (.code (.cond c x y)::k)) cs) w=.go (G (b.at a (.code (if t then x else y)::k)) cs) w:=by
 have h':(b.at a (.code (.cond c x y)::k)).eval c=.bool t:=by rw[aS.eval];exact h
 simp only[aS.at]at h';simp[G,vx,atK,aS.at,h']
def X9{id:Nat}{c:rj}:vx P main (G (b.at a (.code (.block id c)::k)) cs) w=.go (G (b.at a (.code c::.inBlock id::k)) cs) w:=by simp[G,vx,atK,aS.at]
def Ya{c:rj}:vx P main (G (b.at a (.code (.loop c)::k)) cs) w=.go (G (b.at a (.code c::.inLoop c::k)) cs) w:=by simp[G,vx,atK,aS.at]
def Yb{c:rj}:vx P main (G (b.at a (.inLoop c::k)) cs) w=.go (G (b.at a (.code c::.inLoop c::k)) cs) w:=by simp[G,vx,atK,aS.at]
def Yc{c:rj}:vx P main (G (b.at a (.code (.scope c)::k)) cs) w=.go (G (b.at a (.code c::.inScope c::k)) cs) w:=by simp[G,vx,atK,aS.at]
def Yd{id:Nat}{k':List R8}(h:avX id k=C k'):vx P main (G (b.at a (.code (.exit id)::k)) cs) w=.go (G (b.at a k') cs) w:=by simp[G,vx,atK,aS.at,h]
def Ye{id:Nat}{ops:Array sa}:vx P main (G (b.at a (.code (.region id ops q9)::k)) cs) w=.go (G (b.at a (.inRegion ops (List.range ops.size)::k)) cs) w:=by simp[G,vx,atK,aS.at]
def Yf{id:Nat}{ops:Array sa}:∃t,vx P main (G (b.at a (.code (.region id ops J)::k)) cs) w=.go (G (b.at a (.inRegion ops (atM (P.follows .mixedOrders) ops t)::k)) cs) {w with drawn:=w.drawn+1}:=⟨_,by simp[G,vx,atK,aS.at,choose,Sem.run,Question.forced];rfl⟩
def Yg{ops:Array sa}:vx P main (G (b.at a (.inRegion ops []::k)) cs) w=.go (G (b.at a k) cs) w:=by simp[G,vx,atK,aS.at]
def BI(c:b.ro=o0):vx P main (G (b.at a []) cs) w=.go (G {b.at a []with mode:=.returning} cs) w:=by simp[G,vx,atK,aS.at,c]
def BJ(c:b.ro=o0):vx P main (G (b.at a (.code .ret::k)) cs) w=.go (G {b.at a (.code .ret::k)with mode:=.returning} cs) w:=by simp[G,vx,atK,aS.at,c]
def aS.finish_at(b:aS)(a:Act)(ops:Array sa)(i:Nat)(rest:List Nat)(k:List R8)(v:o5):(b.at a (.inRegion ops (i::rest)::k)).finish v=b.at (a.put ((ops[i]?).bind (·.dst)) v) (.inRegion ops rest::k):=by
 cases h:(ops[i]?).bind (·.dst)<;>simp[Frame.finish,aS.at,Act.put,h]
def Yh{ops:Array sa}{i:Nat}{rest:List Nat}{o:sa}(c:ops[i]? =C o)(e:R9 o (auq ops a.tmps)=q9):vx P main (G (b.at a (.inRegion ops (i::rest)::k)) cs) w=.go (G (b.at (a.put o.dst vk) (.inRegion ops rest::k)) cs) w #[]:=by
 have d:(b.at a (.inRegion ops (i::rest)::k)).finish vk=b.at (a.put o.dst vk) (.inRegion ops rest::k):=by rw[aS.finish_at,c];rfl
 rw[<- d];simp[G,vx,atK,aS.at,c,e]
def Yi{ops:Array sa}{i:Nat}{rest:List Nat}(c:ops[i]? =o0):vx P main (G (b.at a (.inRegion ops (i::rest)::k)) cs) w=.go (G (b.at a (.inRegion ops rest::k)) cs) w #[]:=by
 simp[G,vx,atK,aS.at,c,Frame.finish]
def kS(b:aS)(o:sa):Bool:=match o.op,b.ro with|.defer _,C _=>J|_,_=>q9
def GA{ops:Array sa}{i:Nat}{rest:List Nat}{o:sa}(e:ops[i]? =C o)(f:R9 o (auq ops a.tmps)=J)(hd:kS b o=q9):vx P main (G (b.at a (.inRegion ops (i::rest)::k)) cs) w=axb P J (b.at a (.inRegion ops (i::rest)::k)) cs o0 (T0 a.eval o) w:=by
 have c:=aS.BH (b:=b) (a:=a) (.inRegion ops (i::rest)::k);simp only[aS.at]at c;cases d:b.ro with
 |none=>simp[G,vx,atK,stepG.oper,Frame.oper?,aS.at,e,f,d]at c ⊢;rw[c]
 |some l=>simp only[kS,d]at hd;simp[G,vx,atK,stepG.oper,Frame.oper?,aS.at,e,f,d]at c ⊢;cases g:o.op<;>simp[g]at hd ⊢ <;>rw[c]
def GB(b:aS)(a:Act)(o:sa)(ops:Array sa)(i:Nat)(rest:List Nat)(k:List R8)(cs:List vH)(P:tb):Next->Option B6
 | .value v=>C (G (b.at (a.put o.dst v) (.inRegion ops rest::k)) cs)
 | .skip=>C (G (b.at (a.put o.dst vk) (.inRegion ops rest::k)) cs)
 | .defer d=>C (G (b.at ({a with defers:=d::a.defers}.put o.dst vk) (.inRegion ops rest::k)) cs)
 | .enter f args=>C (G (Frame.enter P f args .normal) (b.at a (.inRegion ops (i::rest)::k)::cs))
 | .round l f tmps c e=>C (G (Frame.round l f tmps c e .normal) (b.at a (.inRegion ops (i::rest)::k)::cs))
 |_=>o0
def sz{ops:Array sa}{i:Nat}{rest:List Nat}{o:sa}(e:ops[i]? =C o)(m:R9 o (auq ops a.tmps)=J)(hd:kS b o=q9)(n:b.kind≠.early)
  {an:Next} {w':tg} {es:Array R1} {g':B6} (g:(T0 a.eval o).runT P w #[]=(.ok an w',es)) (c:GB b a o ops i rest k cs P an=C g'):
  vx P main (G (b.at a (.inRegion ops (i::rest)::k)) cs) w=.go g' w' (seen P b.fn es):=by
 have h:(b.kind==CallKind.early)=q9:=by simpa using n
 have f:∀v,(b.at a (.inRegion ops (i::rest)::k)).finish v=b.at (a.put o.dst v) (.inRegion ops rest::k):=λv=>by rw[aS.finish_at,e];rfl
 have j:∀d v,({b.at a (.inRegion ops (i::rest)::k)with defers:=d::(b.at a (.inRegion ops (i::rest)::k)).defers}:vH).finish v=b.at ({a with defers:=d::a.defers}.put o.dst v) (.inRegion ops rest::k):=λd v=>by have:=aS.finish_at b {a with defers:=d::a.defers} ops i rest k v;rw[e]at this;exact this
 rw[GA e m hd];unfold axb;simp only[if_true,g];have l:(b.at a (.inRegion ops (i::rest)::k)).kind=b.kind:=rfl;simp only[l,h,N2,if_false];cases an<;>simp only[GB,W6,reduceCtorEq]at c
 .subst c;simp only[atZ,f];rfl
 .subst c;simp only[atZ,f];rfl
 .subst c;simp only[atZ];rfl
 .subst c;simp only[atZ];rfl
 .subst c;simp only[atZ,Array.append_empty];exact congrArg (λaK=>GStep.go {frame:=aK,callers:=cs,status:=.running,dying:=o0} w' (seen P b.fn es)) (j _ vk)
end
inductive eM where
 |cx
 |ext (id:Nat)
 |ret
section
variable(P:tb)(main:Bool){ai:Type}(S:Sys ai)
def bo(f:vb)(args:Array o5)(s:ai)(h:ae)(Post:ai->ae->o5->Prop):Prop:=∀(Q:ai->ae->B6->Prop) (c:vH) (cs:List vH),(∀a h' v,Post a h' v->dv P main S Q a h' (G (c.finish v) cs))->dv P main S Q s h (G (Frame.enter P f args .normal) (c::cs))
def ki(l:Nat)(f:vb)(tmps:Array o5)(b d:rj)(s:ai)(h:ae)(Post:ai->ae->o5->Prop):Prop:=∀(Q:ai->ae->B6->Prop) (c:vH) (cs:List vH),(∀a h' v,Post a h' v->dv P main S Q a h' (G (c.finish v) cs))->dv P main S Q s h (G (Frame.round l f tmps b d .normal) (c::cs))
def xe(Q:ai->ae->B6->Prop)(b:aS)(k:List R8)(cs:List vH):eM->Act->ai->ae->Prop
 | .cx,a,s,h=>dv P main S Q s h (G (b.at a k) cs)
 | .ext i,a,s,h=>∀c,avX i c=avX i k->dv P main S Q s h (G (b.at a (.code (.exit i)::c)) cs)
 | .ret,a,s,h=>∀c,dv P main S Q s h (G (b.at a (.code .ret::c)) cs)
def GC(o:sa)(a:Act)(s:ai)(N:Act->ai->ae->Prop):Next->ae->Prop
 | .value v,h=>N (a.put o.dst v) s h
 | .skip,h=>N (a.put o.dst vk) s h
 | .defer d,h=>N ({a with defers:=d::a.defers}.put o.dst vk) s h
 | .enter f args,h=>bo P main S f args s h λb h' v=>N (a.put o.dst v) b h'
 | .round l f tmps c e,h=>ki P main S l f tmps c e s h λb h' v=>N (a.put o.dst v) b h'
 |_,_=>False
def lv(b:aS)(o:sa)(aA:su->o5)(s:ai)(h:ae)(K:ai->ae->o5->Prop):Prop:=∀(Q:ai->ae->B6->Prop) (a:Act) (ops:Array sa) (i:Nat) (rest:List Nat) (k:List R8) (cs:List vH),b.kind≠.early->a.eval=aA->ops[i]? =C o->R9 o (auq ops a.tmps)=J->(∀s h v,K s h v->dv P main S Q s h (G (b.at (a.put o.dst v) (.inRegion ops rest::k)) cs))->dv P main S Q s h (G (b.at a (.inRegion ops (i::rest)::k)) cs)
def BK(b:aS)(o:sa)(a:Act)(s:ai)(h:ae)(N:Act->ai->ae->Prop):Prop:=(kS b o=q9/\aH P (T0 a.eval o) h (GC P main S o a s N))\/lv P main S b o a.eval s h (λs h v=>N (a.put o.dst v) s h)
def pq(b:aS)(ops:Array sa):List Nat->Act->ai->ae->(Act->ai->ae->Prop)->Prop
 | [],a,s,h,N=>N a s h
 |i::rest,a,s,h,N=>match ops[i]? with
  |none=>pq b ops rest a s h N
  |some o=>if R9 o (auq ops a.tmps)then BK P main S b o a s h λa s h=>pq b ops rest a s h N else pq b ops rest (a.put o.dst vk) s h N
def jo(b:aS):rj->(eM->Act->ai->ae->Prop)->Act->ai->ae->Prop
 | .skip,K=>K .cx
 | .label _,K=>K .cx
 | .seq x y,K=>jo b x λe=>match e with|.cx=>jo b y K|.ext i=>K (.ext i)|.ret=>K .ret
 | .cond c x y,K=>λa s h=>match a.eval c with|.bool J=>jo b x K a s h|.bool q9=>jo b y K a s h|_=>False
 | .block id c,K=>jo b c λe=>match e with|.cx=>K .cx|.ext i=>if i=id then K .cx else K (.ext i)|.ret=>K .ret
 | .loop c,K=>λa s h=>∀X:Act->ai->ae->Prop,(∀a s h,jo b c (λe=>match e with|.cx=>X|.ext i=>K (.ext i)|.ret=>K .ret) a s h->X a s h)->X a s h
 | .exit id,K=>K (.ext id)
 | .ret,K=>K .ret
 | .scope c,K=>jo b c K
 | .region _ ops g,K=>λa s h=>if g then ∀t,pq P main S b ops (atM (P.follows .mixedOrders) ops t) a s h (K .cx)else pq P main S b ops (List.range ops.size) a s h (K .cx)
 | .rangeFunc f bc d j,K=>λa s h=>∀Q k cs,(∀e a s h,K e a s h->xe P main S Q b k cs e a s h)->dv P main S Q s h (G (b.at a (.code (.rangeFunc f bc d j)::k)) cs)
 |_,_=>λ_ _ _=>False
end
section
variable{P:tb}{main:Bool}{ai:Type}{S:Sys ai}{b:aS}
def bo.mono{f:vb}{args:Array o5}{s:ai}{h:ae}{A B:ai->ae->o5->Prop}(a:∀s h v,A s h v->B s h v)(c:bo P main S f args s h A):bo P main S f args s h B:=λQ aK cs k=>c Q aK cs λb h' v q=>k b h' v (a _ _ _ q)
def ki.mono{l:Nat}{f:vb}{tmps:Array o5}{a b:rj}{s:ai}{h:ae}{A B:ai->ae->o5->Prop}(d:∀s h v,A s h v->B s h v)(c:ki P main S l f tmps a b s h A):ki P main S l f tmps a b s h B:=λQ aK cs k=>c Q aK cs λe h' v q=>k e h' v (d _ _ _ q)
def Yj{o:sa}{a:Act}{s:ai}{N M:Act->ai->ae->Prop}(cr:∀a s h,N a s h->M a s h){an:Next}{h:ae}(u:GC P main S o a s N an h):GC P main S o a s M an h:=by
 cases an<;>first
  |exact cr _ _ _ u
  |exact bo.mono (λ_ _ _=>cr _ _ _) u
  |exact ki.mono (λ_ _ _=>cr _ _ _) u
  |exact u
def lv.mono{o:sa}{aA:su->o5}{s:ai}{h:ae}{A B:ai->ae->o5->Prop}(d:∀s h v,A s h v->B s h v)(c:lv P main S b o aA s h A):lv P main S b o aA s h B:=λQ a ops i rest k cs h1 e f g j=>c Q a ops i rest k cs h1 e f g λs h v q=>j s h v (d _ _ _ q)
def Oc{o:sa}{a:Act}{s:ai}{h:ae}{N M:Act->ai->ae->Prop}(cr:∀a s h,N a s h->M a s h)(u:BK P main S b o a s h N):BK P main S b o a s h M:=u.imp (λu=>⟨u.1,lq P _ (λ_ _=>Yj cr) u.2⟩) (lv.mono λ_ _ _=>cr _ _ _)
def Od{ops:Array sa}:∀{l:List Nat} {a:Act} {s:ai} {h:ae} {N M:Act->ai->ae->Prop},(∀a s h,N a s h->M a s h)->pq P main S b ops l a s h N->pq P main S b ops l a s h M:=by
 intro l
 induction l with
 |nil=>exactλcr u=>cr _ _ _ u
 |cons i l c=>
  intro a s h N M cr u;rw[pq]at u ⊢;cases e:ops[i]? with
  |none=>rw[e]at u;exact c cr u
  |some o=>
   rw[e]at u;simp only at u ⊢;split
   .rename_i d;rw[if_pos d]at u;exact Oc (λ_ _ _=>c cr) u
   .rename_i d;rw[if_neg d]at u;exact c cr u
def xe.weaken{Q:ai->ae->B6->Prop}{k:List R8}{cs:List vH}{K L:eM->Act->ai->ae->Prop}(d:∀e a s h,K e a s h->L e a s h)
  (c:∀e a s h,L e a s h->xe P main S Q b k cs e a s h):∀e a s h,K e a s h->xe P main S Q b k cs e a s h:=λe a s h q=>c e a s h (d _ _ _ _ q)
def vq{c:rj}:∀{K L:eM->Act->ai->ae->Prop} {a:Act} {s:ai} {h:ae},(∀e a s h,K e a s h->L e a s h)->jo P main S b c K a s h->jo P main S b c L a s h:=by
 induction c with
 |skip=>exactλd u=>d _ _ _ _ u
 |label l=>exactλd u=>d _ _ _ _ u
 |seq x y j m=>intro K L a s h d u;exact j (λe a s h q=>by cases e with|cx=>exact m d q|ext i=>exact d _ _ _ _ q|ret=>exact d _ _ _ _ q) u
 |cond c x y j m=>
  intro K L a s h d u;rw[jo]at u ⊢;split at u
  .rename_i n;rw[n];exact j d u
  .rename_i n;rw[n];exact m d u
  .exact u.elim
 |block id c g=>
  intro K L a s h d u;refine g (λe a s h q=> ?_) u;cases e with
  |cx=>exact d _ _ _ _ q
  |ext i=>
   simp only at q ⊢;split
   .rename_i hi;rw[if_pos hi]at q;exact d _ _ _ _ q
   .rename_i hi;rw[if_neg hi]at q;exact d _ _ _ _ q
  |ret=>exact d _ _ _ _ q
 |loop c g=>intro K L a s h d u X o;exact u X λa s h q=>o a s h (g (λe a s h q=>by cases e with|cx=>exact q|ext i=>exact d _ _ _ _ q|ret=>exact d _ _ _ _ q) q)
 |exit id=>exactλd u=>d _ _ _ _ u
 |ret=>exactλd u=>d _ _ _ _ u
 |scope c g=>exactλd u=>g d u
 |region id ops r=>
  intro K L a s h d u;rw[jo]at u ⊢;split
  .rename_i hd;rw[if_pos hd]at u;exactλt=>Od (d _) (u t)
  .rename_i hd;rw[if_neg hd]at u;exact Od (d _) u
 |rangeFunc f bc p v _ _=>intro K L a s h d u Q k cs hc;exact u Q k cs (xe.weaken d hc)
 |goto l=>exactλ_ u=>u
 |refuse w=>exactλ_ u=>u
def Oe(x:b.kind≠.early){ops:Array sa}{Q:ai->ae->B6->Prop}{k:List R8}{cs:List vH}:∀{l:List Nat} {a:Act} {s:ai} {h:ae} {N:Act->ai->ae->Prop},pq P main S b ops l a s h N->(∀a s h,N a s h->dv P main S Q s h (G (b.at a k) cs))->dv P main S Q s h (G (b.at a (.inRegion ops l::k)) cs):=by
 intro l
 induction l with
 |nil=>exactλu c=>.iG rfl (λw=>Yg) (c _ _ _ u)
 |cons i l g=>
  intro a s h N u c;rw[pq]at u;cases j:ops[i]? with
  |none=>rw[j]at u;exact .iG rfl (λw=>Yi j) (g u c)
  |some o=>
   rw[j]at u;simp only at u;cases n:R9 o (auq ops a.tmps)with
   |false=>rw[n]at u;exact .iG rfl (λw=>Yh j n) (g u c)
   |true=>
    rw[n,if_pos rfl]at u;rcases u with⟨hd,u⟩|u
    case inr=>exact u Q a ops i l k cs x rfl j n λs h v q=>g q c
    refine .step ⟨rfl,λw z=> ?_⟩;obtain⟨an,w',h',es,y,m,B,D,E⟩:=BG P _ h _ w #[] z u;rw[Array.empty_append]at y;have p:∀g',GB b a o ops i l k cs P an=C g'->dv P main S Q s h' g'->∃g' w' es h',vx P main (G (b.at a (.inRegion ops (i::l)::k)) cs) w=.go g' w' es/\h'.In w'/\kD h w h' w'/\(∀e∈es,tR h' e)/\dv P main S Q s h' g':=λg' A r=>⟨g',w',seen P b.fn es,h',sz j n hd x y A,B,D,λe F=>E e (mem_seen F),r⟩
    have t:∀v,(b.at a (.inRegion ops (i::l)::k)).finish v=b.at (a.put o.dst v) (.inRegion ops l::k):=λv=>by rw[aS.finish_at,j];rfl
    cases an with
    |value v=>exact p _ rfl (g m c)
    |skip=>exact p _ rfl (g m c)
    |defer d=>exact p _ rfl (g m c)
    |enter f args=>exact p _ rfl (m Q _ cs λH h' v q=>by rw[t];exact g q c)
    |round l f tmps I K=>exact p _ rfl (m Q _ cs λH h' v q=>by rw[t];exact g q c)
    |_=>exact m.elim
def xg(v:b.kind≠.early){c:rj}:∀{K:eM->Act->ai->ae->Prop} {a:Act} {s:ai} {h:ae},jo P main S b c K a s h->∀(Q:ai->ae->B6->Prop) (k:List R8) (cs:List vH),(∀e a s h,K e a s h->xe P main S Q b k cs e a s h)->dv P main S Q s h (G (b.at a (.code c::k)) cs):=by
 induction c with
 |skip=>exactλu Q k cs hc=>.iG rfl (λw=>X4) (hc .cx _ _ _ u)
 |label l=>exactλu Q k cs hc=>.iG rfl (λw=>X5) (hc .cx _ _ _ u)
 |seq x y m o=>
  intro K a s h u Q k cs hc;refine .iG rfl (λw=>X8) (m u Q (.code y::k) cs λe a s h q=> ?_);cases e with
  |cx=>exact o q Q k cs hc
  |ext i=>exactλd g=>hc (.ext i) a s h q d (by rw[g];rfl)
  |ret=>exactλd=>hc .ret a s h q d
 |cond c x y m o=>
  intro K a s h u Q k cs hc;rw[jo]at u;split at u
  .rename_i p;exact .iG rfl (λw=>Ob p) (m u Q k cs hc)
  .rename_i p;exact .iG rfl (λw=>Ob p) (o u Q k cs hc)
  .exact u.elim
 |block id c j=>
  intro K a s h u Q k cs hc;refine .iG rfl (λw=>X9) (j u Q (.inBlock id::k) cs λe a s h q=> ?_);cases e with
  |cx=>exact .iG rfl (λw=>X6) (hc .cx _ _ _ q)
  |ext i=>
   intro d g;simp only at q;by_cases hi:i=id
   .rw[if_pos hi]at q;have:avX i d=C k:=by rw[g];simp[avX,hi]
    exact .iG rfl (λw=>Yd this) (hc .cx _ _ _ q)
   .rw[if_neg hi]at q;exact hc (.ext i) _ _ _ q d (by rw[g];simp[avX,Ne.symm hi])
  |ret=>exactλd=>hc .ret a s h q d
 |loop c j=>
  intro K a s h u Q k cs hc;refine(u (λa s h=>dv P main S Q s h (G (b.at a (.inLoop c::k)) cs)/\dv P main S Q s h (G (b.at a (.code (.loop c)::k)) cs)) λa s h q=> ?_).2;have r:dv P main S Q s h (G (b.at a (.code c::.inLoop c::k)) cs):=by
   refine j q Q (.inLoop c::k) cs λe a s h q=> ?_;cases e with
   |cx=>exact q.1
   |ext i=>exactλd g=>hc (.ext i) a s h q d (by rw[g];rfl)
   |ret=>exactλd=>hc .ret a s h q d
  exact⟨.iG rfl (λw=>Yb) r,.iG rfl (λw=>Ya) r⟩
 |exit id=>exactλu Q k cs hc=>hc (.ext id) _ _ _ u k rfl
 |ret=>exactλu Q k cs hc=>hc .ret _ _ _ u k
 |scope c j=>
  intro K a s h u Q k cs hc;refine .iG rfl (λw=>Yc) (j u Q (.inScope c::k) cs λe a s h q=> ?_);cases e with
  |cx=>exact .iG rfl (λw=>X7) (hc .cx _ _ _ q)
  |ext i=>exactλd g=>hc (.ext i) a s h q d (by rw[g];rfl)
  |ret=>exactλd=>hc .ret a s h q d
 |region id ops B=>
  intro K a s h u Q k cs hc;rw[jo]at u;cases B with
  |false=>exact .iG rfl (λw=>Ye) (Oe v u λa s h q=>hc .cx _ _ _ q)
  |true=>rw[if_pos rfl]at u;refine .step ⟨rfl,λw z=> ?_⟩;obtain⟨t,A⟩:=Yf (P:=P) (main:=main) (b:=b) (a:=a) (k:=k) (cs:=cs) (w:=w) (id:=id) (ops:=ops);refine⟨_,_,#[],h,A,z,⟨rfl,rfl,rfl,vr _,λ_ _ _=>rfl,λ_ _ e _=>e,λ_ x e=>⟨x,e,rfl⟩,λb x' e n=>by rw[n]at e;cases e⟩,Y,Oe v (u t) λa s h q=>hc .cx _ _ _ q⟩
 |rangeFunc f bc D E _ _=>exactλu Q k cs hc=>u Q k cs hc
 |goto l=>exactλu=>u.elim
 |refuse w=>exactλu=>u.elim
end
section
open Go.ConcN (sumTo sumTo_upd sumTo_congr)
inductive kT(α:Type):Type where
 |leaf
 |mk (f:α->kT α)
def kT.Sub{α:Type}(a b:kT α):Prop:=∃f k,b=.mk f/\a=f k
def kT.wf{α:Type}:WellFounded (kT.Sub (α:=α)):=⟨λa=>by
 induction a with
 |leaf=>exact⟨_,λb h=>by obtain⟨f,k,e,_⟩:=h;cases e⟩
 |mk f c=>exact⟨_,λb h=>by obtain⟨d,k,e,rfl⟩:=h;cases e;exact c k⟩⟩
abbrev oh(α:Type):=kT α ⊕ Nat
inductive ry{α:Type}:oh α->oh α->Prop where
 |mR {a b:kT α}:kT.Sub a b->ry (.inl a) (.inl b)
 |xk {q:Nat} {b:kT α}:ry (.inr q) (.inl b)
 |aG {q r:Nat}:q<r->ry (.inr q) (.inr r)
def ry.wf{α:Type}:WellFounded (ry (α:=α)):=by
 have d:∀q:Nat,Acc (ry (α:=α)) (.inr q):=λq=>by
  induction q using Nat.strongRecOn with
  |_ q c=>exact⟨_,λb h=>by cases h with|aG e=>exact c _ e⟩
 refine⟨λa=> ?_⟩;cases a with
 |inr q=>exact d q
 |inl a=>
  induction a using kT.wf.induction with
  |_ a c=>exact⟨_,λb h=>by
    cases h with
    |mR hs=>exact c _ hs
    |xk=>exact d _⟩
inductive ps{β:Type}(r:β->β->Prop):List β->List β->Prop where
 |head {a b:β} {l:List β}:r a b->ps r (a::l) (b::l)
 |tail {a:β} {l m:List β}:ps r l m->ps r (a::l) (a::m)
def ps.wf{β:Type}{r:β->β->Prop}(wf:WellFounded r):WellFounded (ps r):=⟨λl=>by
 induction l with
 |nil=>exact⟨_,λb h=>by cases h⟩
 |cons a l d=>
  induction a using wf.induction generalizing l with
  |_ a e=>
   induction d with
   |intro l f g=>
    refine⟨_,λb h=> ?_⟩;cases h with
    |head c=>exact e _ c l ⟨_,f⟩
    |tail c=>exact g _ c⟩
def ps.set{β:Type}{r:β->β->Prop}{x y:β}:∀{l:List β} {i:Nat},l[i]? =C y->r x y->ps r (l.set i x) l
 | [],_,h,_=>by simp at h
 |a::l,0,h,b=>by simp at h;subst h;exact .head b
 |a::l,i+1,h,b=>by simpa using ps.tail (ps.set (by simpa using h) b)
section
variable(P:tb)(main:Bool){ai:Type}(S:Sys ai)(Q:ai->ae->B6->Prop)
def sA:kT (ai×ae×B6)->ai->ae->B6->Prop
 | .leaf,s,h,g=>Q s h g
 | .mk f,s,h,g=>Q s h g\/xd P main h g (λh' g'=>∃c,sA (f c) s h' g')\/S.j9 s h g (λa h' g'=>∃c,sA (f c) a h' g')
end
open Classical in
def dv.tree{P:tb}{main:Bool}{ai:Type}{S:Sys ai}{Q:ai->ae->B6->Prop}{s:ai}{h:ae}{g:B6}(r:dv P main S Q s h g):∃b,sA P main S Q b s h g:=by
 let f:ai×ae×B6->kT (ai×ae×B6):=λc=>if a:∃b,sA P main S Q b c.1 c.2.1 c.2.2 then a.choose else .leaf
 have d:∀s h g,(∃b,sA P main S Q b s h g)->∃c,sA P main S Q (f c) s h g:=λs h g a=>⟨(s,h,g),by have e:f (s,h,g)=a.choose:=dif_pos a;rw[e];exact a.choose_spec⟩
 refine r (λs h g=>∃b,sA P main S Q b s h g) (λs h g q=>⟨.leaf,q⟩) (λs h g l=>⟨.mk f,?_⟩) (λs h g l=>⟨.mk f,?_⟩)
 .exact .inr (.inl (l.mono λh' i a=>d _ _ _ a))
 .exact .inr (.inr (S.mono (λj h' i a=>d _ _ _ a) l))
def cA(hs:Nat->ae)(i:Nat)(h:ae):Nat->ae:=λj=>if j=i then h else hs j
def kF(hs:Nat->ae)(i:Nat)(h:ae):cA hs i h i=h:=by simp[cA]
def gn(hs:Nat->ae){i j:Nat}(h:ae)(n:j≠i):cA hs i h j=hs j:=by simp[cA,n]
def pt(hs:Nat->ae)(i:Nat):cA hs i (hs i)=hs:=by funext j;simp only[cA];split<;>simp_all
abbrev gZ(i:Nat)(g:B6)(es:Array R1):N1:=MemOp.ofEvents i g.frame.fn g.frame.place es
structure ja(P:tb) where
 kj:Type
 R:Nat->kj->kj->Prop
 c8:kj->Nat->(Nat->ae)->tg->N1->Prop
 waits:kj->Nat->Prop
 gone:kj->Nat->Prop
 Post:o5->tg->Prop
 refl:∀i γ,R i γ γ
 trans:∀{i a b c},R i a b->R i b c->R i a c
 at_:∀{γ n hs w t} (d:Nat),c8 γ n hs w t->c8 γ n hs (w.at d) t
 cZ:∀{γ n hs w t i},c8 γ n hs w t->i<n->¬gone γ i->(hs i).In w
 loc:∀{γ n hs w t i h' w' es} (fn:vb) (pos:String),c8 γ n hs w t->i<n->¬gone γ i->kD (hs i) w h' w'->h'.In w'->(∀e∈es,tR h' e)->c8 γ n (cA hs i h') w' (t++MemOp.ofEvents i fn pos es)
 mute:∀{γ n hs w t i es} (fn:vb) (pos:String),c8 γ n hs w t->0<i->i<n->gone γ i->(∀e∈es,Event.mute e=J)->c8 γ n hs w (t++MemOp.ofEvents i fn pos es)
 live:∀{γ n hs w t},c8 γ n hs w t->∃i,i<n/\¬gone γ i/\¬waits γ i
 main:∀{γ n hs w t},c8 γ n hs w t->0<n/\¬gone γ 0
section
variable{P:tb}(L:ja P)
def ja.qp(i:Nat)(γ γ':L.kj):Prop:=∀j,j≠i->L.R j γ γ'/\(L.gone γ' j↔L.gone γ j)
def ja.qt(g:B6)(γ γ':L.kj):Prop:=∀j,L.waits γ j->¬L.waits γ' j->mayWake P g=J
def ja.im(i:Nat):Sys L.kj where
 j9 s h g X:=g.status=.running/\g.offers=o0/\∀γ n hs w t,L.R i s γ->L.c8 γ n hs w t->i<n->¬L.gone γ i->hs i=h->(L.waits γ i/\vx P q9 g w=.go {g with status:=.blocked} w #[])\/
  (∃a b w' es h',vx P q9 g w=.go b w' es/\L.c8 a n (cA hs i h') w' (t++gZ i g es)/\L.qp i γ a/\L.qt g γ a/\((L.gone a i/\∃q,QuitsD P q (T5 (t++gZ i g es) i) b)\/(¬L.gone a i/\b.status=.running/\X a h' b)))
 mono c l:=⟨l.1,l.2.1,λγ n hs w t r d f j e=>(l.2.2 γ n hs w t r d f j e).imp id λ⟨a,b,w',es,h',a1,a2,a3,m,o⟩=>⟨a,b,w',es,h',a1,a2,a3,m,o.imp id λ⟨bM,bE,k⟩=>⟨bM,bE,c _ _ _ k⟩⟩⟩
def ja.jq:Sys L.kj where
 j9 s h g X:=g.status=.running/\g.offers=o0/\∀γ n hs w t,L.R 0 s γ->L.c8 γ n hs w t->hs 0=h->(L.waits γ 0/\vx P J g w=.go {g with status:=.blocked} w #[])\/
  (∃a b w' es h',vx P J g w=.go b w' es/\L.c8 a n (cA hs 0 h') w' (t++gZ 0 g es)/\L.qp 0 γ a/\L.qt g γ a/\b.status=.running/\X a h' b)\/
  (∃a b f w' es h' hc,vx P J g w=.spawn b f w' es/\L.c8 a (n+1) (cA (cA hs 0 h') n hc) w' ((t++gZ 0 g es).push {g:=0,fn:=g.frame.fn,pos:=g.frame.place,act:=.go n} |>.push {g:=n,fn:=f.frame.fn,pos:=g.frame.place,act:=.start})/\
   (∀j,j≠0->j≠n->(L.R j γ a/\(L.gone a j↔L.gone γ j)))/\(∀j,L.waits γ j->L.waits a j)/\¬L.gone a n/\dv P q9 (L.im n) (λ_ _ _=>False) a hc f/\b.status=.running/\X a h' b)
 mono m l:=⟨l.1,l.2.1,λγ n hs w t r o e=>(l.2.2 γ n hs w t r o e).imp id (.imp (λ⟨a,b,w',es,h',a1,a2,a3,i,k,d⟩=>⟨a,b,w',es,h',a1,a2,a3,i,k,m _ _ _ d⟩)
  λ⟨a,b,c,w',es,h',hc,a1,a2,a3,i,k,d,p,q⟩=>⟨a,b,c,w',es,h',hc,a1,a2,a3,i,k,d,p,m _ _ _ q⟩)⟩
def ja.GD(s:L.kj)(h:ae)(g:B6):Prop:=g.status=.running/\∀γ n hs w t,L.R 0 s γ->L.c8 γ n hs w t->hs 0=h->(∀j,0<j->j<n->L.gone γ j)/\∃v es,vx P J g w=.ended (.done v) w es/\L.Post v w/\(∀a,¬Race a (t++gZ 0 g es))/\(t++gZ 0 g es).HandedOver
abbrev ja.α:=L.kj×ae×B6
def ja.xn:Nat->kT L.α->L.kj->ae->B6->Prop
 | 0=>sA P J L.jq L.GD
 |i+1=>sA P q9 (L.im (i+1)) (λ_ _ _=>False)
def ja.xn.running{i:Nat}{a:kT L.α}{s:L.kj}{h:ae}{g:B6}(r:L.xn i a s h g):g.status=.running:=by
 cases i with
 |zero=>
  cases a with
  |leaf=>exact r.1
  |mk f=>rcases r with r|r|r<;>exact r.1
 |succ i=>
  cases a with
  |leaf=>exact r.elim
  |mk f=>rcases r with r|r|r;exact r.elim;exact r.1;exact r.1
def ja.pw(i:Nat)(m:oh L.α)(g:B6)(γ:L.kj)(h:ae)(t:N1):Prop:=(¬L.gone γ i/\∃s b a,m=.inl b/\L.R i s γ/\L.xn i b s h a/\(g=a\/(a.offers=o0/\g= {a with status:=.blocked}/\L.waits γ i)))\/
 (L.gone γ i/\0<i/\∃q,m=.inr q/\QuitsD P q (T5 t i) g)
def oq(a:Array B6):Nat->Nat:=λi=>match a[i]? with
 |some g=>if g.status=.running then 1 else 0
 |none=>0
abbrev ja.ou:=kT L.α×List (oh L.α)×Nat
def ja.lt:L.ou->L.ou->Prop:=Prod.Lex kT.Sub (Prod.Lex (ps ry) (· < ·))
def ja.Yk:WellFounded L.lt:=(Prod.lex ⟨_,kT.wf⟩ (Prod.lex ⟨_,ps.wf ry.wf⟩ Nat.lt_wfRel)).wf
def ja.Inv(ou:L.ou)(m:Machine)(t:N1):Prop:=∃(a:Array B6) (w:tg) (c:Option (Nat×Nat)) (γ:L.kj) (hs:Nat->ae) (ms:List (oh L.α)) (b:kT L.α),m=crowd a w c/\a.size=ms.length+1/\L.c8 γ a.size hs w t/\(∀i g x,a[i]? =C g->(Sum.inl b::ms)[i]? =C x->L.pw i x g γ (hs i) t)/\ou=(b,ms,sumTo a.size (oq a))
end
end
section
open Go.ConcN (fork_knows Deaf_absent)
def blk:Loc->Option Nat
 | .cell a=>C a.block
 | .obj r=>C r
 |_=>o0
def qu(t:N1)(g b:Nat):Prop:=∀i a,awP t i=C a->blk a.loc=C b->Knows t g i
def xp(t:N1)(g b:Nat):Prop:=∀i a,awP t i=C a->blk a.loc=C b->a.write=J->Knows t g i
def BL(mu:vm)(aW:Nat->Prop)(t:N1)(b:Nat):Prop:=∀i a,awP t i=C a->blk a.loc=C b->(∀g,aW g->Knows t g i)\/∃p,t.act? p=C (.mark (.releaseMerge mu))/\t.heard p/\Before t i p
def qu.w{t:N1}{g b:Nat}(h:qu t g b):xp t g b:=λi a e f _=>h i a e f
def qu.app{t u:N1}{g b:Nat}(h:qu t g b)(l:∀op∈u,∀x,op.act.touch? =C x->blk x.loc=C b->op.g=g):qu (t++u) g b:=by
 intro i a f c;obtain⟨x,e,d⟩:=axd f;rcases avk e with⟨hi,j⟩|⟨_,k⟩
 .exact(h i a (by rw[ayq j];exact d) c).app u
 .have:=azs e
  rwa [l x k a d c]at this
def xp.app{t u:N1}{g b:Nat}(h:xp t g b)(m:∀op∈u,∀x,op.act.touch? =C x->blk x.loc=C b->x.write=J->op.g=g):xp (t++u) g b:=by
 intro i a j c e;obtain⟨x,f,d⟩:=axd j;rcases avk f with⟨hi,k⟩|⟨_,l⟩
 .exact(h i a (by rw[ayq k];exact d) c e).app u
 .have:=azs f
  rwa [m x l a d c e]at this
def BL.app{mu:vm}{aW:Nat->Prop}{t u:N1}{b:Nat}(h:BL mu aW t b)(m:∀op∈u,∀x,op.act.touch? =C x->blk x.loc≠C b):BL mu aW (t++u) b:=by
 intro i a f c;obtain⟨x,n,d⟩:=axd f;rcases avk n with⟨hi,j⟩|⟨_,k⟩
 .rcases h i a (by rw[ayq j];exact d) c with hk|⟨p,h1,h2,h3⟩
  .exact .inl λg l=>(hk g l).app u
  .have e:=ayr h1;exact .inr ⟨p,by rw[ays e];exact h1,(ayt e).2 h2,h3.app u⟩
 .exact absurd c (m x k a d)
def Of{x:MemAct}{B b:Nat}{a:Touch}(h:x.low B)(e:x.touch? =C a)(hb:blk a.loc=C b):b<B:=by
 cases x with
 |access aA=>simp only[at2,W6]at e;subst e;simp only at hb;simp only[MemAct.low]at h;cases c:aA.loc<;>rw[c]at hb h<;>simp[blk]at hb<;>subst hb<;>exact h
 |mark m=>cases m<;>simp[at2]at e<;>subst e<;>simp[blk]at hb<;>subst hb<;>exact h
 |_=>simp[at2]at e
section
variable(own ro:Nat->Nat->Prop)(aT sh:Nat->Prop)(mu:vm)(aW:Nat->Prop)
structure zB:Prop where
 one:∀i j b,own i b->own j b->i=j
 mr:∀i j b,own i b->¬ro j b
 mU:∀i b,own i b->¬aT b
 ownSh:∀i b,own i b->¬sh b
 qv:∀i b,ro i b->¬aT b
 nt:∀i b,ro i b->¬sh b
 sB:∀b,aT b->¬sh b
structure iP(n B:Nat)(t:N1):Prop where
 clean:∀said,¬Race said t
 gs:∀(i:Nat) (op:auw),t[i]? =C op->op.g<n
 low:∀op∈t,op.act.low B
 own:∀i b,i<n->own i b->qu t i b
 ro:∀i b,i<n->ro i b->xp t i b
 aT:∀b,aT b->BL mu aW t b
 quiet:Quiet (λl=>∃b,blk l=C b/\sh b) t
 plain:∀(i:Nat) (op:auw) (x:Touch),t[i]? =C op->op.act.touch? =C x->∃b,blk x.loc=C b/\(sh b\/x.kind=.plain)
 norel:ayu mu t
def GF(g:Nat)(op:auw):Prop:=op.g=g/\op.act≠.mark (.release mu)/\∀x,op.act.touch? =C x->∃b,blk x.loc=C b/\((sh b/\x.kind≠.plain/\(x.kind=.said->g=0))\/((own g b\/(ro g b/\x.write=q9))/\x.kind=.plain))
end
section
variable{own fu ro sC:Nat->Nat->Prop}{aT gd' sh atw:Nat->Prop}{mu:vm}{aW hx:Nat->Prop}{n B B' g:Nat}{t u:N1}
def iP.weaken(h:iP own ro aT sh mu aW n B t)(a:∀i b,fu i b->own i b)(c:∀i b,sC i b->own i b\/ro i b):iP fu sC aT sh mu aW n B t:={h with own:=λi b hi e=>h.own i b hi (a i b e),ro:=λi b hi e=>(c i b e).elim (λx=>(h.own i b hi x).w) (h.ro i b hi)}
def iP.app(h:iP own ro aT sh mu aW n B t)(s:g<n)(N:B<=B')(E:zB fu sC aT sh)
  (F:∀i b,fu i b->own i b\/(i=g/\B<=b)) (A:∀i b,sC i b->ro i b) (j:∀op∈u,GF fu sC sh mu g op/\op.act.low B'):iP fu sC aT sh mu aW n B' (t++u):=by
 have fresh:∀i b,fu i b->own i b\/(i=g/\qu t i b):=λi b e=>(F i b e).imp id λ⟨o,l⟩=>⟨o,λk a q hb=>by obtain⟨x,f,G⟩:=axd q;have:=Of (h.low x (axF f)) G hb;omega⟩
 have D:∀i b,i<n->fu i b->qu t i b:=λi b hi e=>(fresh i b e).elim (h.own i b hi) (·.2);have H:∀i b,i<n->fu i b->qu (t++u) i b:=λi b hi e=>(D i b hi e).app λop c x f hb=>by
  obtain⟨⟨o,_,l⟩,_⟩:=j op c;obtain⟨bG,d,hc⟩:=l x f;obtain rfl:b=bG:=by rw[hb]at d;exact T6 d
  rcases hc with⟨hs,_⟩|⟨m|⟨p,_⟩,_⟩
  .exact absurd hs (E.ownSh i b e)
  .rw[o];exact E.one g i b m e
  .exact absurd p (E.mr i g b e)
 refine⟨λP=>azt (h.clean P) (λop c=>(j op c).1.1) λi a q op c b hb hc=> ?_,λi op hi=> ?_,λop c=> ?_,H,λi b hi e=>(h.ro i b hi (A i b e)).app λop c x f hb r=> ?_,λb hb=>(h.aT b hb).app λop c x f I=> ?_,h.quiet.app λop c x f hs=> ?_,λi op x hi f=> ?_,h.norel.app λop c=>(j op c).1.2.1⟩
 .obtain⟨⟨o,_,l⟩,_⟩:=j op c;obtain⟨bG,d,K⟩:=l b hb;rcases K with⟨hs,z,v⟩|⟨m|⟨p,r⟩,_⟩
  .exact h.quiet.known (b:=b) ⟨bG,d,hs⟩ z v i a q hc
  .exact D g bG s m i a q (by rw[hc.1];exact d)
  .exact h.ro g bG s (A g bG p) i a q (by rw[hc.1];exact d) (hc.2.2.1.resolve_right (by simp[r]))
 .rcases avk hi with⟨_,w⟩|⟨_,y⟩
  .exact h.gs i op w
  .rw[(j op y).1.1];exact s
 .exact(awK.1 c).elim (λx=>aA3 N (h.low op x)) λx=>(j op x).2
 .obtain⟨⟨o,_,l⟩,_⟩:=j op c;obtain⟨bG,d,hc⟩:=l x f;obtain rfl:b=bG:=by rw[hb]at d;exact T6 d
  rcases hc with⟨hs,_⟩|⟨m|⟨_,L⟩,_⟩
  .exact absurd hs (E.nt i b e)
  .exact absurd e (E.mr g i b m)
  .rw[L]at r;cases r
 .obtain⟨⟨o,_,l⟩,_⟩:=j op c;obtain⟨bG,d,hc⟩:=l x f;obtain rfl:b=bG:=by rw[I]at d;exact T6 d
  rcases hc with⟨hs,_⟩|⟨m|⟨p,_⟩,_⟩
  .exact E.sB b hb hs
  .exact E.mU g b m hb
  .exact E.qv g b p hb
 .obtain⟨⟨o,_,l⟩,_⟩:=j op c;obtain⟨b,M,gG⟩:=hs;obtain⟨bG,d,hc⟩:=l x f;obtain rfl:b=bG:=by rw[M]at d;exact T6 d
  rcases hc with⟨_,z,v⟩|⟨m|⟨p,_⟩,_⟩
  .exact⟨z,λe=>o.trans (v e)⟩
  .exact absurd gG (E.ownSh g b m)
  .exact absurd gG (E.nt g b p)
 .rcases avk hi with⟨_,w⟩|⟨_,y⟩
  .exact h.plain i op x w f
  .obtain⟨b,hb,hc⟩:=(j op y).1.2.2 x f;exact⟨b,hb,hc.imp (·.1) (·.2)⟩
def iP.acquire(h:iP own ro aT sh mu aW n B t)(E:zB own ro aT sh){z:auw}(o:z.g<n)(c:z.act=.mark (.acquire mu))(hd:T5 t z.g=0)(q:aW z.g)(r:mu.block<B):iP (λi b=>own i b\/(i=z.g/\aT b)) ro (λ_=>False) sh mu aW n B (t++#[z]):=by
 have f:z.act.touch? =o0:=by rw[c];rfl
 have hb:=h.app (u:=#[z]) o (vr _) E (λi b e=>.inl e) (λi b e=>e) (by intro op j;simp at j;subst j;exact⟨⟨rfl,by rw[c];simp,λx m=>by rw[f]at m;cases m⟩,by rw[c];exact r⟩)
 have l:(t++#[z])[t.size]? =C z:=Y
 refine{hb with own:=λi b hi e=> ?_,aT:=λb s=>s.elim};rcases e with e|⟨rfl,e⟩
 .exact hb.own i b hi e
 .intro i a v w;have y:awP t i=C a:=Go.ConcM.old_touch f v;rcases h.aT b e i a y w with A|⟨p,h1,D,F⟩
  .exact(A z.g q).app _
  .have d:=ayr h1;have G:aA5 (t++#[z]) p t.size:=.single (.inr ⟨.marked d (.inr (by rw[ays d];exact h1)) (by rw[axG l,c]) (λk _ _=>hb.norel k),(ayt d).2 D,z.g,by simp[Trace.g?],by rw[ayv (vr _)];exact hd⟩);exact⟨t.size,z,l,rfl,.inr ((F.app #[z]).hb G)⟩
def iP.release(h:iP own ro (λ_=>False) sh mu aW n B t){y:auw}(d:y.g<n)(c:y.act=.mark (.releaseMerge mu))(hd:T5 t y.g=0)(m:mu.block<B)(E:zB own ro (λ_=>False) sh)(o:∀b,gd' b->own y.g b):iP (λi b=>own i b/\¬gd' b) ro gd' sh mu aW n B (t++#[y]):=by
 have f:y.act.touch? =o0:=by rw[c];rfl
 have hb:=h.app (u:=#[y]) d (vr _) E (λi b e=>.inl e) (λi b e=>e) (by intro op j;simp at j;subst j;exact⟨⟨rfl,by rw[c];simp,λx l=>by rw[f]at l;cases l⟩,by rw[c];exact m⟩)
 have k:(t++#[y])[t.size]? =C y:=Y
 refine{hb with own:=λi b hi e=>hb.own i b hi e.1,aT:=λb p i a q r=>.inr ⟨t.size,by rw[axG k,c],⟨y.g,by simp[Trace.g?],by rw[ayv (vr _)];exact hd⟩,.inr ?_⟩};exact(h.own y.g b d (o b p) i a (Go.ConcM.old_touch f q) r).hb_new (vr _) k rfl
def iP.fork(h:iP own ro aT sh mu aW n B t)(u:0<n)(R:aW 0){x y:auw}(j:x.g=0/\x.act=.go n)(f:y.g=n/\y.act=.start)(h0:T5 t 0=0)
  (I:∀i b,i≠n->fu i b->own i b) (K:∀i b,i≠n->sC i b->own i b\/ro i b) (L:∀b,fu n b->own 0 b) (M:∀b,sC n b->own 0 b\/ro 0 b):iP fu sC aT sh mu (λg=>aW g\/g=n) (n+1) B (t++#[x,y]):=by
 have E:T5 t n=0:=Deaf_absent λi op hi e=>by have:=h.gs i op hi;omega
 have r:∀op∈#[x,y],op=x\/op=y:=by intro op d;simpa using d
 have l:∀op∈#[x,y],∀b,op.act.touch? =C b->False:=by
  intro op d b hb;rcases r op d with rfl|rfl
  .rw[j.2]at hb;cases hb
  .rw[f.2]at hb;cases hb
 have s:∀{i:Nat} {b:Touch},awP (t++#[x,y]) i=C b->awP t i=C b:=by
  intro i b hb;obtain⟨z,N,F⟩:=axd hb;rcases avk N with⟨_,P⟩|⟨_,Q⟩
  .rw[ayq P];exact F
  .exact(l z Q b F).elim
 refine⟨λS=> ?_,λi op hi=> ?_,λop d=> ?_,λi b hi e=> ?_,λi b hi e=> ?_,λb hb i a m o=> ?_,h.quiet.app λop d b hb _=>(l op d b hb).elim,λi op c hi hc=> ?_,h.norel.app λop d=> ?_⟩
 .have e:t++#[x,y]=(t++#[x])++#[y]:=by apply Array.ext';simp
  rw[e];refine azt (g:=n) (azt (g:=0) (h.clean S) (λop d=>by simp at d;rw[d];exact j.1) (λi b _ op d c hc _=>(l op (by simp at d ⊢;exact .inl d) c hc).elim))
   (λop d=>by simp at d;rw[d];exact f.1) (λi b _ op d c hc _=>(l op (by simp at d ⊢;exact .inr d) c hc).elim)
 .rcases avk hi with⟨_,v⟩|⟨_,A⟩
  .exact Nat.lt_succ_of_lt (h.gs i op v)
  .rcases r op A with rfl|rfl
   .rw[j.1];omega
   .rw[f.1];omega
 .rcases awK.1 d with d|d
  .exact h.low op d
  .rcases r op d with rfl|rfl
   .rw[j.2];trivial
   .rw[f.2];trivial
 .by_cases q:i=n
  .subst q;exactλk a m o=>fork_knows j f h0 E (h.own 0 b u (L b e) k a (s m) o)
  .exact(h.own i b U (I i b q e)).app λop d c hc _=>(l op d c hc).elim
 .by_cases q:i=n
  .subst q;exactλk a m o W=>fork_knows j f h0 E ((M b e).elim (λz=>h.own 0 b u z k a (s m) o) λz=>h.ro 0 b u z k a (s m) o W)
  .have:xp t i b:=(K i b q e).elim (λz=>(h.own i b U z).w) λz=>h.ro i b U z;exact this.app λop d c hc _ _=>(l op d c hc).elim
 .rcases h.aT b hb i a (s m) o with G|⟨p,h1,X,h3⟩
  .refine .inl λg D=> ?_;rcases D with D|rfl
   .exact(G g D).app _
   .exact fork_knows j f h0 E (G 0 R)
  .have H:=ayr h1;exact .inr ⟨p,by rw[ays H];exact h1,(ayt H).2 X,h3.app _⟩
 .rcases avk hi with⟨_,v⟩|⟨_,A⟩
  .exact h.plain i op c v hc
  .exact(l op A c hc).elim
 .rcases r op d with rfl|rfl
  .rw[j.2];simp
  .rw[f.2];simp
def Og{B:Nat}{a:vm}(h:∀op∈t,op.act.low B)(d:B<=a.block):ayu a t:=by intro i hi;obtain⟨op,b,c⟩:=au5.1 hi;have:=h op (axF b);rw[c]at this;exact absurd this (Nat.not_lt.2 d)
def iP.GG{mu':vm}(h:iP own ro (λ_=>False) sh mu aW n B t)(a:B<=mu'.block):iP own ro (λ_=>False) sh mu' (λg=>g=0) n B t:={h with aT:=λ_ hb=>hb.elim,norel:=Og h.low a}
def iP.share{b0:Nat}(h:iP own ro aT sh mu aW n B t)(d:B<=b0):iP own ro aT (λb=>sh b\/b=b0) mu aW n (b0+1) t:={h with
  low:=λop c=>aA3 (Nat.le_succ_of_le d) (h.low op c)
  quiet:=λi op x hi a hs=>by
   obtain⟨b,hb,hs⟩:=hs;rcases hs with hs|rfl
   .exact h.quiet i op x hi a ⟨b,hb,hs⟩
   .have:=Of (h.low op (axF hi)) a hb;omega
  plain:=λi op x hi a=>(h.plain i op x hi a).imp λb hb=>⟨hb.1,hb.2.imp .inl id⟩}
def iP.zC(h:iP own ro (λ_=>False) sh mu (λg=>g=0) n B t)(c:0<n)(d:∀b,gd' b->own 0 b):iP (λi b=>own i b/\¬gd' b) ro gd' sh mu (λg=>g=0) n B t:={h with
  own:=λi b hi e=>h.own i b hi e.1
  aT:=λb hb i a f j=>.inl λg k=>by subst k;exact h.own 0 b c (d b hb) i a f j}
def tS(t:N1)(i:Nat):Prop:=∀k,t.g? k=C i->t.counts k->Knows t 0 k
def tS.app{i:Nat}(h:tS t i)(d:∀k,t.size<=k->(t++u).g? k=C i->¬(t++u).counts k):tS (t++u) i:=by
 intro k b hc;rcases vy k t.size with a|c
 .exact(h k (by rw[<- g?_old (u:=u) a];exact b) ((counts_old a).1 hc)).app u
 .exact absurd hc (d k c b)
inductive BM where
 |wk|rz|jn
 deriving DecidableEq
structure rA(wg:vm)(eN:Nat->BM)(n:Nat)(t:N1):Prop where
 norel:ayu wg t
 rz:∀i,0<i->i<n->eN i=.rz->∃r,Go.ConcN.RelBy wg t i r
 jn:∀i,0<i->i<n->eN i=.jn->tS t i
variable{wg:vm}{eN BN:Nat->BM}
def rA.app(h:rA wg eN n t)(c:∀op∈u,op.g=g)(d:∀op∈u,op.act≠.mark (.release wg))(hc:0<g->eN g≠.wk->∀k,t.size<=k->(t++u).g? k=C g->¬(t++u).counts k):rA wg eN n (t++u):=by
 have key:∀i,0<i->eN i≠.wk->∀k,t.size<=k->(t++u).g? k=C i->¬(t++u).counts k:=by
  intro i h0 o k p a;by_cases b:i=g
  .subst b;exact hc h0 o k p a
  .obtain⟨op,f,j⟩:=au5.1 a;rcases avk f with⟨q,_⟩|⟨_,l⟩
   .omega
   .exact absurd (j.symm.trans (c op l)) b
 exact⟨h.norel.app d,λi h0 hi e=>(h.rz i h0 hi e).imp λr m=>m.app (key i h0 (by rw[e];simp)),λi h0 hi e=>(h.jn i h0 hi e).app (key i h0 (by rw[e];simp))⟩
def Yl(f:∀(i:Nat) (op:auw),t[i]? =C op->op.g<n)(h:∀i,0<i->i<n->tS t i):t.HandedOver:=by
 intro i g b e hc;obtain⟨op,c,rfl⟩:=au5.1 b;obtain⟨q,z,h1,d,a⟩:=h op.g U (f i op c) i b hc;refine⟨q,by simp[Trace.g?,h1,d],?_⟩;rcases a with rfl|a
 .rw[c]at h1;cases h1;exact absurd d e
 .exact a
def rA.join(h:rA wg eN n t){z:auw}(j:z.g=0)(l:z.act=.mark (.acquire wg))(hd:T5 t 0=0){i:Nat}(h0:0<i)(hi:i<n)(A:eN i≠.wk):tS (t++#[z]) i:=by
 have m:(t++#[z])[t.size]? =C z:=Y
 have new:∀k,t.size<=k->(t++#[z]).g? k=C i->¬(t++#[z]).counts k:=by
  intro k f v;obtain⟨op,w,B⟩:=au5.1 v;rcases avk w with⟨b,_⟩|⟨_,o⟩
  .omega
  .simp at o;subst o;omega
 cases e:eN i with
 |wk=>exact absurd e A
 |jn=>exact(h.jn i h0 hi e).app new
 |rz=>
  obtain⟨r,a⟩:=h.rz i h0 hi e;have c:=ayr a.act;have x:ayu wg (t++#[z]):=h.norel.app λop p=>by simp at p;subst p;rw[l];simp
  have s:aA5 (t++#[z]) r t.size:=.single (.inr ⟨.marked c (.inr (by rw[ays c];exact a.act)) (by rw[axG m,l]) (λk _ _=>x k),(ayt c).2 a.heard,0,by simp[Trace.g?,j],by rw[ayv (vr _)];exact hd⟩);intro k f hc;rcases vy k t.size with b|y
  .have q:t.g? k=C i:=by rw[<- g?_old (u:=#[z]) b];exact f
   have D:k<=r:=Nat.le_of_not_lt λd=>a.after k d q ((counts_old b).1 hc);refine⟨t.size,z,m,j,.inr ?_⟩;rcases vy k r with d|d
   .exact .trans (.single (.inl ⟨d,i,by rw[g?_old b];exact q,by rw[g?_old c];exact a.g⟩)) s
   .obtain rfl:k=r:=U
    exact s
  .exact absurd hc (new k y f)
def iP.joined(h:iP own ro aT sh mu aW n B t)(j:∀i,0<i->i<n->tS t i){b:Nat}(hb:¬sh b):qu t 0 b:=by
 intro i a k d;obtain⟨op,c,f⟩:=axd k;rcases Nat.eq_zero_or_pos op.g with h0|l
 .have:=azs c
  rwa [h0]at this
 .obtain⟨bG,e,hc⟩:=h.plain i op a c f;obtain rfl:b=bG:=by rw[d]at e;exact T6 e
  have o:a.loc.isMemory=J:=by cases m:a.loc<;>rw[m]at d<;>simp[blk]at d<;>rfl
  refine j op.g l (h.gs i op c) i (by simp[Trace.g?,c]) ⟨a,by rw[axG c];exact f,o,.inl ?_⟩;rw[hc.resolve_left hb];simp
end
end
end
end Go.Nk
