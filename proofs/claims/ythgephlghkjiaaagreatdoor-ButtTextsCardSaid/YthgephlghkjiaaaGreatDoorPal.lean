/- Part Pal of the proof of ButtTexts: lemmas. -/
import Derived.Conc.EntryLaws
import Derived.Conc.MuStops
import Derived.Conc.AtomicLaws2
import Derived.Conc.ClockLaws
import Derived.Conc.MarkLaws
import Derived.Test.YthgephlghkjiaaaGreatDoorPak
set_option maxRecDepth 100000
set_option maxHeartbeats 4000000
set_option linter.all false
namespace Go.Nk
noncomputable section
open Go Go.Conc Go.Proofs
open BitVec renaming ofInt->avT,toNat_and->az5
open Bool renaming false->q9,true->J
open Go renaming Program->tb,World->tg,FuncId->vb,Oper->sa,TypeId->ta,Operand->su,Value->o5,Event->R1,execOp->T0,run_callFunc_extern->axW,deafBehind->A0,run_store->awg,run_underlying->aBD,Code->rj,eqGuard->W2
open Go.Conc renaming execOp_call_func->azV,events_callFunc_extern->ayV,casT_eq->awF,aside_setCell->au3,semEvents->atL,semEvents_sync->ayW,canSpin_eq->ayY,ofEvents_eq->auy,G->B5
open Go.ConcN renaming upd->at7,upd_same->atY,upd_ne->auc,sumTo->at6
open Go.Extern renaming findNext->awS,find->awT
open Go.Extern.Atomic renaming casT->azX,update->axZ
open Go.Extern.OsHooks renaming nano->az0
open Go.Extern.Race renaming none_->auA,marked->auB,at_->avS
open Go.Extern.Sync renaming semacquire->awf,count->avR,none_->ayX,semrelease->aw2,canSpin->aBB,nothing->aBC
open Go.Instr renaming loadAt->avF,sureAddr->avI,fieldAt->at3
open Go.IntKind renaming u32->aun,wrap->aur,bits->auQ,signed->auR,i32->awh
open Go.MemAct renaming ofEvent->Zs,touch?->at2
open Go.MemOp renaming ofEvents->T1
open Go.Proofs.Tryz renaming f172->ayZ,f147->ay0,f174->az1,prog->pv,underlying201->aBI
open Go.Result renaming andThen->ava,evThen->axY
open Nat renaming le_refl->vr,le_of_lt->awe,lt_of_lt_of_le->auj,eq_of_testBit_eq->az2,testBit_two_pow_mul_add->aw3,reducePow->ax0,testBit_and->az3,or_lt_two_pow->aBE,testBit_or->azT,lt_of_le_of_lt->avQ,and_le_left->az4,le_trans->atD
open Option renaming some->C,none->o0
open Option.some renaming inj->T6
section
variable{P:tb}{main:Bool}{b:aS}{a:Act}{k:List Item}{cs:List Frame}{w w':tg}{f:vb}{fn:Func}{ops:Array sa}{i:Nat}{rest:List Nat}{o:sa}{gH:Array ta}{b1:Array su}{e:Array o5->Sem o5}
def Ir(a:o.op=.call {callee:=.value (.func f),args:=b1,argTypes:=gH}):kS b o=q9:=by unfold kS;rw[a]
def wb{α:Type}(m:Sem α)(w:tg)(es:Array R1):m.runT P w es=(m.run P w,m.events P w es):=by
 apply Prod.ext
 .exact(Sem.runT_fst ..)
 .rfl
def s9(m:ops[i]? =C o)(r:Region.wanted o (yielded ops a.tmps)=J)(s:b.kind≠.early)(c:o.op=.call {callee:=.value (.func f),args:=b1,argTypes:=gH})
  (d:P.funcs[f]? =C fn) (h:(fn.name== "runtime.NumGoroutine")=q9) (hb:fn.body.isNone=J) (j:awS fn=o0) (l:awT fn=C e)
  {v:o5} {evs:Array R1} (n:(e (b1.map a.eval)).run P w=.ok v w')
  (p:(e (b1.map a.eval)).events P w #[⟨.mark (.extern f),q9,J⟩]=#[⟨.mark (.extern f),q9,J⟩]++evs) (hs:∀x∈evs,x.sync=J/\∀g,x.loc≠.mark (.extern g)):
  stepG P main (G (b.at a (.inRegion ops (i::rest)::k)) cs) w=.go (G (b.at (a.put o.dst v) (.inRegion ops rest::k)) cs) w' evs:=by
 have t:=azV (a:=a) c;have q:(T0 a.eval o).runT P w #[]=(.ok (.value v) w',#[⟨.mark (.extern f),q9,J⟩]++evs):=by rw[wb,t,axW d h hb j l,n,ayV d h hb j l];simp only[List.push_toArray,List.nil_append];rw[p];rfl
 rw[sz m r (Ir c) s q rfl,seen_entry _ _ _ hs]
def Qd(d:ops[i]? =C o)(n:Region.wanted o (yielded ops a.tmps)=J)(c:o.op=.call {callee:=.value (.func f),args:=b1,argTypes:=gH})
  (g:P.funcs[f]? =C fn) (h:(fn.name== "runtime.NumGoroutine")=q9) (hb:fn.body.isNone=J) (j:awS fn=o0) (p:awT fn=C e)
  (l:(e (b1.map a.eval)).run P w=.halt .blocked w'):
  stepG P main (G (b.at a (.inRegion ops (i::rest)::k)) cs) w=.go {G (b.at a (.inRegion ops (i::rest)::k)) cs with status:=.blocked} w' #[]:=by
 have q:=azV (a:=a) c;have m:(T0 a.eval o).run P w=.halt .blocked w':=by rw[q,axW g h hb j p,l];rfl
 rw[GA d n (Ir c)];simp[stepG.apply,m,G,GStep.after,seen_none]
end
section
open Go.ConcM (OsLater muBlock)
section
variable{P:tb}{tM tW:ta}{os0:eI}{Post:o5->tg->Prop}{γ:av}{n i:Nat}{hs:Nat->ae}{w w':tg}{t:Trace}{es:Array R1}{x':cK}
def av.aZ(γ:av)(i:Nat)(x':cK)(es:Array R1):av:= {γ with x:=x',bC:=at7 γ.bC i (A0 (γ.bC i) es)}
def c8.aZ(G:c8 tM tW os0 γ n hs w t)(h0:0<i)(hi:i<n)(c:γ.on=J)(d:γ.wd i=.wk)(F:γ.n0<=i)(B:x'.dF γ.cap)(f:∀j,j≠i->x'.md j=γ.x.md j/\x'.dc j=γ.x.dc j)
  (l:γ.cw=C i->x'.md i=.own) (m:w'.heap.size=w.heap.size) (hb:∀b,b≠γ.mu->w'.heap[b]? =w.heap[b]?) (o:w'.heap[γ.mu]? =C (muBlock tM x'.mu x'.M)) (p:mB w w')
  (q:∀e∈es,wa γ e) (fn:vb) (pos:String):c8 tM tW os0 (γ.aZ i x' es) n hs w' (t++T1 i fn pos es):=by
 have g:∀j,j≠i->x'.md j=γ.x.md j:=λj a=>(f j a).1;obtain⟨D,H,r⟩:=G.gP c;have s:¬γ.gone i:=λh=>absurd h.2 (by rw[d];simp);obtain⟨bM,bE,u⟩:=G.book hi s m (λb y=>hb b λe=>y (by rw[e];exact D)) (es:=es) (λj e E=>⟨q e (Array.mem_of_getElem? E),.inr λ_ h=>absurd d h⟩) fn pos;exact{
  aG:=G.aG
  pos:=G.pos
  n0:=G.n0
  hi:=bM
  je:=bE
  bC:=λj a z=>by
   rw[u j a z];show _=at7 γ.bC i (A0 (γ.bC i) es) j;by_cases e:j=i
   .subst e;rw[if_pos rfl,atY]
   .rw[if_neg e,auc _ _ e]
  old:=G.old
  jy:=λ_=>o
  jf:=λ_=>by rw[(atz:(γ.aZ i x' es).wg=γ.wg),hb _ (Ne.symm r)];exact G.jf c
  gP:=G.gP
  ok:=B
  cap:=G.cap
  out:=λj a=>by
   have A:j≠i:=by
    rintro rfl;rcases a with e|e|e
    .omega
    .omega
    .exact e d
   show x'.md j=.out;rw[g j A];exact G.out j a
  cw:=λj a=>by
   refine⟨(G.cw j a).1,?_⟩;show x'.md j=.own;by_cases e:j=i
   .subst e;exact l a
   .rw[g j e];exact(G.cw j a).2
  kW:=G.kW
  full:=G.full
  hB:=⟨G.hB.v,G.hB.st⟩
  eO:=G.eO
  os:=G.os.trans p
  jZ:=λh=>by have:=G.j5 c;rw[(atz:(γ.aZ i x' es).iB=γ.iB),this]at h;cases h
  j5:=G.j5
  kq:=λj h1 k=>⟨(G.kq j h1 k).1,by show x'.dc j=γ.b0;rw[(f j U).2];exact(G.kq j h1 k).2⟩}
def Di(b:∀j,j≠i->x'.md j=γ.x.md j/\x'.dc j=γ.x.dc j)(c:x'.cn γ.cap<=γ.x.cn γ.cap)(d:x'.mu≠γ.x.mu->x'.cn γ.cap<γ.x.cn γ.cap):(fD P tM tW os0 Post).qp i γ (γ.aZ i x' es):=by
 intro j a;refine⟨.inr (.inr ⟨vr _,rfl,rfl,rfl,rfl,rfl,rfl,rfl,rfl,(b j a).1,(b j a).2,auc _ _ a,Iff.rfl,rfl,c,d,λ_=>rfl,λ_=>⟨rfl,rfl,rfl,vr _,λ_=>⟨rfl,rfl⟩⟩,rfl,rfl⟩),Iff.rfl⟩
def Dj{g:Goroutine}(d:∀j,j≠i->x'.md j=γ.x.md j)(hi:γ.x.md i=.iv->x'.md i=.iv\/0<γ.x.M)(b:x'.M<=γ.x.M\/mayWake P g=J):(fD P tM tW os0 Post).qt g γ (γ.aZ i x' es):=by
 intro j h1 f;rcases b with b|b
 .exfalso;apply f;change (γ.aZ i x' es).waits j;have a:γ.waits j:=h1;unfold av.waits at a ⊢;by_cases c:j=0
  .rw[if_pos c]at a ⊢;exact a
  .rw[if_neg c]at a ⊢;refine⟨?_,by show x'.M=0;omega⟩;show x'.md j=.iv;by_cases e:j=i
   .subst e;rcases hi a.1 with h|h
    .exact h
    .omega
   .rw[d j e];exact a.1
 .exact b
end
end
section
open Go.ConcM (OsLater muBlock MuAt muA)
section
variable{P:tb}{tM tW:ta}{os0:eI}{Post:o5->tg->Prop}{i:Nat}{b:aS}{s:av}{h:ae}{K:av->ae->o5->Prop}{f:vb}{fn:Func}
structure gV(i:Nat)(s γ:av):Prop where
 rel:av.lI i s γ
 ok:γ.x.dF γ.cap
 iM:∀j,γ.x.md j≠.out->γ.n0<=j
def c8.iM{tM tW:ta}{os0:eI}{γ:av}{n:Nat}{hs:Nat->ae}{w:tg}{t:Trace}(G:c8 tM tW os0 γ n hs w t):∀j,γ.x.md j≠.out->γ.n0<=j:=λj a=>by have h1:j≠0:=λe=>a (G.out j (.inl e));have b:γ.wd j=.wk:=Classical.byContradiction λe=>a (G.out j (.inr (.inr e)));refine Nat.le_of_not_lt λc=> ?_;rw[G.old j U c]at b;cases b
def acS(h0:0<i)(W:s.on=J)(X:s.wd i=.wk)(ab:s.n0<=i)(ad:i<s.aG)
  (B:P.funcs[f]? =C fn) (D:(fn.name== "runtime.NumGoroutine")=q9) (hb:fn.body.isNone=J) (E:awS fn=o0) (c:awT fn=C (azX (.int .i32))) {r new:Int}
  (ba:∀γ,gV i s γ->(γ.x.mu:Int)=r->∃x',x'.dF γ.cap/\((x'.mu:Nat):Int)=new/\x'.M=γ.x.M/\(∀j,j≠i->x'.md j=γ.x.md j/\x'.dc j=γ.x.dc j)/\x'.cn γ.cap<γ.x.cn γ.cap/\(γ.cw=C i->x'.md i=.own)/\(γ.x.md i=.iv->x'.md i=.iv)/\K (γ.aZ i x' #[⟨.cell ⟨s.mu,0,o0⟩,q9,J⟩,⟨.cell ⟨s.mu,0,o0⟩,J,J⟩]) h (.bool J))
  (af:∀γ,gV i s γ->(γ.x.mu:Int)≠r->K (γ.aZ i γ.x #[⟨.cell ⟨s.mu,0,o0⟩,q9,J⟩]) h (.bool q9)):
  ej P q9 ((fD P tM tW os0 Post).im i) f #[.pointer (C ⟨s.mu,0,o0⟩),.int .i32 r,.int .i32 new] s h (K:=⟨K⟩):=by
 refine .inr (.inr λb o aA b1 gH F m=>Aj λa ops j rest k cs R ha H S γ n hs w t hr G hi hg I=>.inr ?_);subst ha;have g:=hr.s ad hg;have l:γ.on=J:=g.on.trans W;have p:γ.mu=s.mu:=g.mu;have u:MuAt tM s.mu w γ.x.mu γ.x.M:=by rw[<- p];exact G.jy l
 have hc:w.cell? ⟨s.mu,0,o0⟩=C (.int .i32 γ.x.mu):=u.cellSt;have q:=u.thaw 0;have aI:gV i s γ:=⟨g,G.ok,G.iM⟩;obtain⟨bb,m2,m3⟩:=G.gP l;have v:γ.wd i=.wk:=g.wd.trans X;have L:γ.n0<=i:=by rw[g.n0];exact ab
 have N:∀x,wa γ ⟨.cell ⟨s.mu,0,o0⟩,x,J⟩:=λx=>.inr (.inr ⟨_,x,rfl,by rw[<- p];exact bb⟩);have Q:∀z:av,z.wd=γ.wd->¬z.gone i:=λz e a7=>by have:=a7.2;rw[e,v]at this;cases this
 by_cases d:(γ.x.mu:Int)=r
 .obtain⟨x',c1,c2,c3,c4,c5,c6,cG,bd⟩:=ba γ aI d;have y:=s9 (rest:=rest) (main:=q9) (b:=b) (a:=a) (k:=k) (cs:=cs) (w:=w) H S R F B D hb E c (evs:=#[⟨.cell ⟨s.mu,0,o0⟩,q9,J⟩,⟨.cell ⟨s.mu,0,o0⟩,J,J⟩])
   (by rw[m,awF,<- d];exact run_cas_hit_entry hc q) (by rw[m,awF,<- d,events_cas_hit_entry hc q];rfl) (sync_rw _)
  refine⟨γ.aZ i x' _,_,_,_,h,y,?_,Di c4 (awe c5) (λ_=>c5),Dj (λj hj=>(c4 j hj).1) (λe=>.inl (cG e)) (.inl U),Q _ rfl,bd⟩;rw[<- I,pt];have A:=au3 w (muA s.mu) (.int .i32 new);refine G.aZ h0 hi l v L c1 c4 c6 A.size (λb hb=>A.block b (by rw[<- p];exact hb)) ?_ (mB.of A.os A.output) (λe c=> ?_) _ _
  .rw[p,c2,c3];exact u.setSt new
  .simp at c;rcases c with rfl|rfl<;>exact N _
 .have y:=s9 (rest:=rest) (main:=q9) (b:=b) (a:=a) (k:=k) (cs:=cs) (w:=w) H S R F B D hb E c (evs:=#[⟨.cell ⟨s.mu,0,o0⟩,q9,J⟩])
   (by rw[m,awF];exact run_cas_miss_entry hc q d) (by rw[m,awF,events_cas_miss_entry hc q d];rfl) (sync_r _)
  refine⟨γ.aZ i γ.x _,_,_,_,h,y,?_,Di (λj _=>⟨rfl,rfl⟩) (vr _) (λe=>absurd rfl e),Dj (λj _=>rfl) (λe=>.inl e) (.inl (vr _)),Q _ rfl,af γ aI d⟩;rw[<- I,pt];refine G.aZ h0 hi l v L G.ok (λ_ _=>⟨rfl,rfl⟩) (λe=>(G.cw i e).2) rfl (λ_ _=>rfl) (G.jy l) (.refl _) (λe c=> ?_) _ _;simp at c;subst c;exact N _
end
end
section
open Go.ConcM (OsLater muBlock MuAt muA msA)
def Qe{P:tb}{b:aS}{a:Act}{ops:Array sa}{i:Nat}{rest:List Nat}{k:List Item}{cs:List Frame}{o:sa}{f:vb}{fn:Func}{xs:Array su}{gH:Array ta}
  (c:ops[i]? =C o) (d:o.op=.call {callee:=.value (.func f),args:=xs,argTypes:=gH}) (e:P.funcs[f]? =C fn) (hb:fn.body.isNone=J):mayWake P (G (b.at a (.inRegion ops (i::rest)::k)) cs)=J:=by
 have g:fn.body.isSome=q9:=by cases h:fn.body<;>simp_all
 simp[mayWake,G,aS.at,c,d,Frame.eval,e,g]
structure lJ(i:Nat)(s:av):Prop where
 pos:0<i
 on:s.on=J
 wk:s.wd i=.wk
 n0:s.n0<=i
 aG:i<s.aG
structure gw(P:tb)(f:vb)(fn:Func)(x:Array o5->Sem o5):Prop where
 f:P.funcs[f]? =C fn
 name:(fn.name== "runtime.NumGoroutine")=q9
 body:fn.body.isNone=J
 next:awS fn=o0
 find:awT fn=C x
section
variable{P:tb}{tM tW:ta}{os0:eI}{Post:o5->tg->Prop}{i:Nat}{s:av}{h:ae}{K:av->ae->o5->Prop}{f:vb}{fn:Func}{x:Array o5->Sem o5}{args:Array o5}
structure we(i:Nat)(γ:av)(x':cK):Prop where
 ok:x'.dF γ.cap
 md:∀j,j≠i->x'.md j=γ.x.md j/\x'.dc j=γ.x.dc j
 cn:x'.cn γ.cap<=γ.x.cn γ.cap
 word:x'.mu≠γ.x.mu->x'.cn γ.cap<γ.x.cn γ.cap
 cw:γ.cw=C i->x'.md i=.own
 iv:γ.x.md i=.iv->x'.md i=.iv\/0<γ.x.M
def we.refl{γ:av}(ok:γ.x.dF γ.cap)(a:γ.cw=C i->γ.x.md i=.own):we i γ γ.x:=⟨ok,λ_ _=>⟨rfl,rfl⟩,vr _,λe=>absurd rfl e,a,.inl⟩
def Ak(W:lJ i s)(X:gw P f fn x)
  (hs:∀γ w,gV i s γ->(γ.cw=C i->γ.x.md i=.own)->MuAt tM s.mu w γ.x.mu γ.x.M->(γ.x.md i=.iv/\γ.x.M=0/\(x args).run P w=.halt .blocked w)\/
   ∃x' v w' evs,(x args).run P w=.ok v w'/\(x args).events P w #[⟨.mark (.extern f),q9,J⟩]=#[⟨.mark (.extern f),q9,J⟩]++evs/\(∀y∈evs,y.sync=J/\∀g,y.loc≠.mark (.extern g))/\we i γ x'/\w'.heap.size=w.heap.size/\(∀b,b≠s.mu->w'.heap[b]? =w.heap[b]?)/\w'.heap[s.mu]? =C (muBlock tM x'.mu x'.M)/\mB w w'/\(∀e∈evs,(∃o y,e=⟨.cell ⟨s.mu,o,o0⟩,y,J⟩)\/e.loc=.mark .disable\/e.loc=.mark .enable)/\
    K (γ.aZ i x' evs) h v):
  ej P q9 ((fD P tM tW os0 Post).im i) f args s h (K:=⟨K⟩):=by
 refine .inr (.inr λb o aA b1 gH l m=>Aj λa ops j rest k cs hk B p A γ n a8 w t D G hi E F=> ?_);subst B;have c:=D.s W.aG E;have q:γ.on=J:=c.on.trans W.on;have d:γ.mu=s.mu:=c.mu;have H:MuAt tM s.mu w γ.x.mu γ.x.M:=by rw[<- d];exact G.jy q
 have aI:gV i s γ:=⟨c,G.ok,G.iM⟩;obtain⟨ag,m2,m3⟩:=G.gP q;have z:γ.wd i=.wk:=c.wd.trans W.wk;have I:γ.n0<=i:=by rw[c.n0];exact W.n0
 have L:∀r:av,r.wd=γ.wd->¬r.gone i:=λr e N=>by have:=N.2;rw[e,z]at this;cases this
 rcases hs γ w aI (λe=>(G.cw i e).2) H with⟨Q,R,S⟩|⟨x',v,w',evs,c1,c2,c3,c4,c5,c6,cG,az,dk,a6⟩
 .refine .inl ⟨?_,Qd (rest:=rest) p A l X.f X.name X.body X.next X.find (by rw[m];exact S)⟩;unfold av.waits;rw[if_neg (by have:=W.pos;omega)];exact⟨Q,R⟩
 .right;have ab:=s9 (rest:=rest) (main:=q9) (b:=b) (a:=a) (k:=k) (cs:=cs) (w:=w) p A hk l X.f X.name X.body X.next X.find (by rw[m];exact c1) (by rw[m];exact c2) c3;refine⟨γ.aZ i x' evs,_,_,_,h,ab,?_,Di c4.md c4.cn c4.word,Dj (λj hj=>(c4.md j hj).1) c4.iv (.inr (Qe p l X.f X.body)),L _ rfl,a6⟩;rw[<- F,pt];refine G.aZ W.pos hi q z I c4.ok c4.md c4.cw c5 (λb hb=>c6 b (by rw[<- d];exact hb)) (by rw[d];exact cG) az (λe he=> ?_) _ _;rcases dk e he with⟨o',y,rfl⟩|u|u
  .exact .inr (.inr ⟨_,y,rfl,by show s.mu∈γ.sh;rw[<- d];exact ag⟩)
  .exact .inl u
  .exact .inr (.inl u)
def Al(W:lJ i s){m:Mark}(b:m=.disable\/m=.enable)(X:gw P f fn (λ_=>do mark m;pure auA))
  (d:∀γ,gV i s γ->K (γ.aZ i γ.x #[⟨.mark m,q9,J⟩]) h (.tuple #[])):ej P q9 ((fD P tM tW os0 Post).im i) f #[] s h (K:=⟨K⟩):=by
 refine Ak W X λγ w aI j k=>.inr ⟨γ.x,.tuple #[],w,#[⟨.mark m,q9,J⟩],by simp[auA],Y,λy a=> ?_,.refl aI.ok j,rfl,λ_ _=>rfl,k,.refl _,λe c=> ?_,d γ aI⟩
 .simp at a;subst a;rcases b with rfl|rfl<;>exact⟨rfl,λg h=>by cases h⟩
 .simp at c;subst c;rcases b with rfl|rfl
  .exact .inr (.inl rfl)
  .exact .inr (.inr rfl)
def acT(W:lJ i s)(X:gw P f fn awf){r:List o5}(k:args=⟨.pointer (C (msA s.mu))::r⟩)(l:i<s.cap)(m:s.x.md i=.iv)
  (n:∀γ,gV i s γ->0<γ.x.M->K (γ.aZ i (γ.x.go i .py γ.x.L γ.x.K γ.x.S γ.x.W (γ.x.M- 1)) (atL (msA s.mu))) h (.tuple #[])):ej P q9 ((fD P tM tW os0 Post).im i) f args s h (K:=⟨K⟩):=by
 subst k;refine Ak W X λγ w aI o a=> ?_;have c:γ.x.md i=.iv:=aI.rel.md.trans m;have hc:w.cell? (msA s.mu)=C (.int .u32 γ.x.M):=a.cellSm;by_cases h0:γ.x.M=0
 .left;rw[h0]at hc;exact⟨c,h0,by simp[awf,avR,hc]⟩
 .right;have d:w.frozen? (msA s.mu)=q9:=a.thaw 1;have v:((γ.x.M:Nat):Int)≠0:=U
  obtain⟨p,q⟩:=cK.Oi aI.ok (by rw[aI.rel.cap];exact l) c U;have A:=au3 w (msA s.mu) (.int .u32 ((γ.x.M:Nat)- 1:Int));refine⟨_,.tuple #[],w.setCell (msA s.mu) (.int .u32 ((γ.x.M:Nat)- 1:Int)),atL (msA s.mu),?_,?_,ayW _,⟨p,λj t=>⟨auc _ _ t,rfl⟩,q,λe=>absurd rfl e,λe=> ?_,λ_=>.inr U⟩,A.size,λb hb=>A.block b hb,?_,mB.of A.os A.output,λe g=> ?_,n γ aI U⟩
  .simp[awf,avR,hc,h0,d,ayX,awg P w (msA s.mu) (.int .u32 ((γ.x.M:Nat)- 1:Int)) .atomic rfl,ava]
  .simp[awf,avR,hc,h0,d,atL,events_load,events_store P w _ (msA s.mu) (.int .u32 ((γ.x.M:Nat)- 1:Int)) .atomic rfl,awg P w (msA s.mu) (.int .u32 ((γ.x.M:Nat)- 1:Int)) .atomic rfl,axY]
  .have:=o e;rw[c]at this;cases this
  .have:=a.setSm ((γ.x.M:Nat)- 1:Int);have u:(((γ.x.go i .py γ.x.L γ.x.K γ.x.S γ.x.W (γ.x.M- 1)).M:Nat):Int)=((γ.x.M:Nat)- 1:Int):=by show((γ.x.M- 1:Nat):Int)=_;omega
   rw[u];exact this
  .simp[atL]at g;rcases g with rfl|rfl|rfl|rfl
   .exact .inr (.inl rfl)
   .exact .inl ⟨1,_,rfl⟩
   .exact .inl ⟨1,_,rfl⟩
   .exact .inr (.inr rfl)
def acU(W:lJ i s)(X:gw P f fn aw2){r:List o5}(l:args=⟨.pointer (C (msA s.mu))::r⟩)(m:i<s.cap)(n:s.x.md i=.rel)(o:∀γ,gV i s γ->γ.x.M+1<4294967296)
  (p:∀γ,gV i s γ->K (γ.aZ i (γ.x.go i .out γ.x.L γ.x.K γ.x.S γ.x.W (γ.x.M+1)) (atL (msA s.mu))) h (.tuple #[])):ej P q9 ((fD P tM tW os0 Post).im i) f args s h (K:=⟨K⟩):=by
 subst l;refine Ak W X λγ w aI q a=>.inr ?_;have c:γ.x.md i=.rel:=aI.rel.md.trans n;have hc:w.cell? (msA s.mu)=C (.int .u32 γ.x.M):=a.cellSm;have d:w.frozen? (msA s.mu)=q9:=a.thaw 1;obtain⟨t,g⟩:=cK.release aI.ok (by rw[aI.rel.cap];exact m) c;have u:aun.wrap ((γ.x.M:Nat)+1:Int)=((γ.x.M+1:Nat):Int):=by have:=o γ aI;simp only[aur,auQ,auR,Bool.false_and];simp;omega
 have A:=au3 w (msA s.mu) (.int .u32 (aun.wrap ((γ.x.M:Nat)+1:Int)));refine⟨_,.tuple #[],w.setCell (msA s.mu) (.int .u32 (aun.wrap ((γ.x.M:Nat)+1:Int))),atL (msA s.mu),?_,?_,ayW _,⟨t,λj v=>⟨auc _ _ v,rfl⟩,awe g,λ_=>g,λe=> ?_,λe=> ?_⟩,A.size,λb hb=>A.block b hb,?_,mB.of A.os A.output,λe k=> ?_,p γ aI⟩
 .simp[aw2,avR,hc,d,ayX,Op.intArith,awg P w (msA s.mu) (.int .u32 (aun.wrap ((γ.x.M:Nat)+1:Int))) .atomic rfl,ava]
 .simp[aw2,avR,hc,d,atL,Op.intArith,events_load,events_store P w _ (msA s.mu) (.int .u32 (aun.wrap ((γ.x.M:Nat)+1:Int))) .atomic rfl,awg P w (msA s.mu) (.int .u32 (aun.wrap ((γ.x.M:Nat)+1:Int))) .atomic rfl,axY]
 .have:=q e;rw[c]at this;cases this
 .rw[c]at e;cases e
 .have:=a.setSm (aun.wrap ((γ.x.M:Nat)+1:Int));rw[u]at this ⊢;exact this
 .simp[atL]at k;rcases k with rfl|rfl|rfl|rfl
  .exact .inr (.inl rfl)
  .exact .inl ⟨1,_,rfl⟩
  .exact .inl ⟨1,_,rfl⟩
  .exact .inr (.inr rfl)
def Qf(W:lJ i s)(X:gw P f fn (axZ (Op.intArith .add) .i32 J)){d:Int}
  (hs:∀γ,gV i s γ->(γ.cw=C i->γ.x.md i=.own)->∃x',we i γ x'/\x'.M=γ.x.M/\((x'.mu:Nat):Int)=awh.wrap ((γ.x.mu:Nat)+d)/\K (γ.aZ i x' #[⟨.cell (muA s.mu),q9,J⟩,⟨.cell (muA s.mu),J,J⟩]) h (.int .i32 x'.mu)):
  ej P q9 ((fD P tM tW os0 Post).im i) f #[.pointer (C (muA s.mu)),.int .i32 d] s h (K:=⟨K⟩):=by
 refine Ak W X λγ w aI j a=>.inr ?_;obtain⟨x',c1,c2,c3,c4⟩:=hs γ aI j;have hc:w.cell? (muA s.mu)=C (.int .i32 γ.x.mu):=a.cellSt;have c:w.frozen? (muA s.mu)=q9:=a.thaw 0;have A:=au3 w (muA s.mu) (.int .i32 (awh.wrap ((γ.x.mu:Nat)+d)));refine⟨x',_,_,#[⟨.cell (muA s.mu),q9,J⟩,⟨.cell (muA s.mu),J,J⟩],run_add_entry hc c,by rw[events_add_entry hc c];rfl,sync_rw _,c1,A.size,λb hb=>A.block b hb,?_,mB.of A.os A.output,λe g=> ?_,by rw[<- c3];exact c4⟩
 .rw[c2,c3];exact a.setSt _
 .simp at g;rcases g with rfl|rfl<;>exact .inl ⟨0,_,rfl⟩
def Qg(W:lJ i s)(X:gw P f fn x)(hs:∀w:tg,∃v w',(x args).run P w=.ok v w'/\(x args).events P w #[⟨.mark (.extern f),q9,J⟩]=#[⟨.mark (.extern f),q9,J⟩]/\w'.heap=w.heap/\mB w w'/\∀γ,gV i s γ->K (γ.aZ i γ.x #[]) h v):ej P q9 ((fD P tM tW os0 Post).im i) f args s h (K:=⟨K⟩):=by
 refine Ak W X λγ w aI a c=>.inr ?_;obtain⟨v,w',c1,c2,c3,c4,c5⟩:=hs w;exact⟨γ.x,v,w',#[],c1,by rw[c2];simp,Y,.refl aI.ok a,by rw[c3],λb _=>by rw[c3],by rw[c3];exact c,c4,Y,c5 γ aI⟩
def acV(W:lJ i s)(X:gw P f fn aBB){k:IntKind}{n:Int}(b:∀γ c,gV i s γ->(4<=n->c=q9)->K (γ.aZ i γ.x #[]) h (.bool c)):ej P q9 ((fD P tM tW os0 Post).im i) f #[.int k n] s h (K:=⟨K⟩):=by
 refine Qg W X λw=> ?_;by_cases a:n>=4
 .exact⟨.bool q9,w,by rw[ayY,if_pos a];rfl,by rw[ayY,if_pos a];rfl,rfl,.refl _,λγ aI=>b γ _ aI λ_=>rfl⟩
 .exact⟨.bool w.spins,w.asked,by rw[ayY,if_neg a];rfl,by rw[ayY,if_neg a];rfl,rfl,.refl _,λγ aI=>b γ _ aI λh=>absurd h a⟩
def acW(W:lJ i s)(X:gw P f fn aBC)(a:∀γ,gV i s γ->K (γ.aZ i γ.x #[]) h (.tuple #[])):ej P q9 ((fD P tM tW os0 Post).im i) f args s h (K:=⟨K⟩):=Qg W X λw=>⟨.tuple #[],w,rfl,rfl,rfl,.refl _,a⟩
end
end
section
open Go.ConcM (OsLater muBlock MuAt muA msA)
section
variable{P:tb}{tM tW:ta}{os0:eI}{Post:o5->tg->Prop}{i:Nat}{s:av}{h:ae}{K:av->ae->o5->Prop}{f:vb}{fn:Func}
def acX{γ γ':av}{hs:Nat->ae}{h':ae}(a:γ'.n0=γ.n0)(b:γ'.wd=γ.wd)(hi:γ.wd i=.wk):γ'.eN (cA hs i h')=γ.eN hs:=by
 funext j;unfold av.eN;rw[a,b];by_cases e:j=i
 .subst e;simp[hi]
 .rw[gn _ _ e]
def Qh{γ γ':av}{n:Nat}{hs:Nat->ae}{h':ae}{w:tg}{t:Trace}{e:R1}{fn:vb}{pos:String}(G:c8 tM tW os0 γ n hs w t)(hi:i<n)(hg:¬γ.gone i)(L:(Zs e).touch? =o0)(M:e.loc≠.mark .disable)(N:e.loc≠.mark .enable)(P:∀a,e.loc≠.mark (.release a))
  (a1:γ'.x=γ.x) (a2:γ'.cap=γ.cap) (a3:γ'.aG=γ.aG) (m:γ'.n0=γ.n0) (k:γ'.wd=γ.wd) (D:γ'.ms=γ.ms) (s:γ'.wv=γ.wv) (E:γ'.wr=γ.wr) (a9:γ'.ws=γ.ws) (p:γ'.mu=γ.mu) (u:γ'.wg=γ.wg) (o:γ'.on=γ.on) (y:γ'.sh=γ.sh) (Q:γ'.bC=γ.bC) (R:γ'.I=γ.I) (S:γ'.full=γ.full) (F:γ'.iB=γ.iB) (W:γ'.b0=γ.b0) (bh:i<n) (z:γ.wd i=.wk)
  (X:fy (cA hs i h') n γ'.gN (· ∈γ.sh) ⟨γ.mu,0,o0⟩ γ.aW w (t++T1 i fn pos #[e])) (ab:∀j,γ'.cw=C j->j<n/\γ.x.md j=.own) (ad:γ.on=J->γ'.cw=o0->γ.I γ'.cN γ'.aT/\γ'.aT.kK) (H:∀j,j≠i->γ'.cN j=γ.cN j):
  c8 tM tW os0 γ' n (cA hs i h') w (t++T1 i fn pos #[e]):=by
 have af:γ'.aW=γ.aW:=by funext j;simp only[av.aW,a3,m]
 have A:∀f,γ'.dB f=γ.dB f:=λf=>by simp only[av.dB,a3,m,k]
 have ag:∀j,γ'.gone j↔γ.gone j:=λj=>by unfold av.gone;rw[k]
 have az:∀c∈#[e],(Zs c).touch? =o0:=λc he=>by simp at he;subst he;exact L
 exact{
  aG:=a3.trans G.aG
  pos:=G.pos
  n0:=by rw[m];exact G.n0
  hi:=by rw[y,p,af];exact X
  je:=by rw[u,acX m k z];refine G.je.app (g:=i) (λop l=>s5 l) (λop l h=> ?_) λ_ _=>Iq az;rw[auy]at l;obtain⟨c,he,rfl⟩:=Array.mem_map.1 l;simp at he;subst he;exact P _ (Go.ConcR.loc_of_ofEvent h)
  bC:=λj d ba=>by
   rw[Q];have K:¬γ.gone j:=λh=>ba ((ag j).2 h);by_cases q:j=i
   .subst q;rw[Deaf_own,deafBehind_still (λc he=>by simp at he;subst he;exact⟨M,N⟩)];exact G.bC j d K
   .rw[Deaf_other t (g':=i) (λe=>q e.symm) _ (λop l=>s5 l)];exact G.bC j d K
  old:=by rw[m,k];exact G.old
  jy:=λb=>by rw[o]at b;rw[p,a1];exact G.jy b
  jf:=λb=>by rw[o]at b;rw[u,s,E,a9];exact G.jf b
  gP:=λb=>by rw[o]at b;rw[p,u,y];exact G.gP b
  ok:=by rw[a1,a2];exact G.ok
  cap:=by rw[a2];exact G.cap
  out:=by rw[a1,k];exact G.out
  cw:=by rw[a1];exact ab
  kW:=λb h=>by rw[o]at b;rw[R];exact ad b h
  full:=λj h1 r B=>by rw[k]at B;rw[S,H j (λc=>by subst c;exact B z)];exact G.full j (by rw[<- m];exact h1) r B
  hB:=by have v:=G.hB.v;have bb:=G.hB.st;exact⟨by rw[s,A,D];exact v,by rw[D,E,a9,s,A,A];exact bb⟩
  eO:=λj h0 d=>by
   rw[k]at d;have q:j≠i:=λc=>by subst c;rw[z]at d;cases d
   rw[gn _ _ q];exact G.eO j h0 d
  os:=G.os
  jZ:=λh=>by rw[F]at h;rw[p,y,a1];exact G.jZ h
  j5:=λh=>by rw[o]at h;rw[F];exact G.j5 h
  kq:=λj h1 r=>by rw[a2]at r;rw[a1,W,H j U];exact G.kq j h1 r}
def acY(W:lJ i s)(X:gw P f fn (auB .acquire)){r:List o5}{args:Array o5}(l:args=⟨.pointer (C (muA s.mu))::r⟩)(b5:i<s.cap)(R:s.x.md i=.own)(S:s.bC i=0)(ab:s.cw≠C i)
  (hK:∀γ,gV i s γ->γ.I γ.cN γ.aT->γ.aT.kK->γ.bC i=0->(∀b x,γ.aT b=C x->h b=o0)->K {γ with cw:=C i} (h.add γ.aT) (.tuple #[])):ej P q9 ((fD P tM tW os0 Post).im i) f args s h (K:=⟨K⟩):=by
 subst l;refine .inr (.inr λb o aA b1 gH af B=>Aj λa ops j rest k cs hk l ho hw γ n az w t hr G hi m D=>.inr ?_);subst l;have c:=hr.s W.aG m;have p:γ.on=J:=c.on.trans W.on;have a7:γ.mu=s.mu:=c.mu;have aI:gV i s γ:=⟨c,G.ok,G.iM⟩;obtain⟨bs,m2,m3⟩:=G.gP p;have E:γ.wd i=.wk:=c.wd.trans W.wk;have F:γ.x.md i=.own:=c.md.trans R;have H:γ.bC i=0:=c.bC.trans S;have u:γ.cw=o0:=by
  cases L:γ.cw with
  |none=>rfl
  |some q=>obtain⟨q1,q2⟩:=G.cw q L;have:i=q:=cK.owner G.ok (auj hi G.cap) (auj q1 G.cap) F q2;subst this;exact absurd (c.cw.1 L) ab
 obtain⟨g1,Q⟩:=G.kW p u;have bb:=s9 (rest:=rest) (main:=q9) (b:=b) (a:=a) (k:=k) (cs:=cs) (w:=w) (v:=.tuple #[]) (w':=w) (evs:=#[⟨.mark (.acquire (muA s.mu)),q9,J⟩]) ho hw hk af X.f X.name X.body X.next X.find
  (by rw[B];simp[auB,avS,auA]) (by rw[B];simp[auB,avS]) (by intro y M;simp at M;subst M;exact⟨rfl,λg h=>by cases h⟩)
 have N:γ.gN=γ.aT:=by unfold av.gN;rw[if_pos ⟨p,u⟩]
 have bd:∀b x,γ.aT b=C x->h b=o0:=λb x hb=>by
  cases hh:h b with
  |none=>rfl
  |some y=>
   exfalso;have hd:dX γ.gN b:=by rw[N];exact⟨x,hb⟩
   rcases sZ (hs:=az) (j:=i) (b:=b) (x:=y) (by rw[D];exact hh)with q|q
   .exact G.hi.ex.mU i b q hd
   .exact G.hi.ex.qv i b q hd
 have bh:∀(A:vb) (pos:String),T1 i A pos #[⟨.mark (.acquire (muA s.mu)),q9,J⟩]=#[{g:=i,fn:=A,pos,act:=.mark (.acquire ⟨γ.mu,0,o0⟩)}]:=λA pos=>by rw[auy,a7];simp[Zs,muA]
 refine⟨{γ with cw:=C i},_,_,_,h.add γ.aT,bb,?_,λj d=>⟨.inr (.inr ⟨vr _,rfl,rfl,rfl,rfl,rfl,rfl,rfl,rfl,rfl,rfl,rfl,⟨λe=>absurd (T6 e).symm d,λe=>by rw[u]at e;cases e⟩,rfl,vr _,λe=>absurd rfl e,λ_=>rfl,λ_=>⟨rfl,rfl,rfl,vr _,λ_=>⟨rfl,rfl⟩⟩,rfl,rfl⟩),Iff.rfl⟩,λj h1 h2=>absurd h1 h2,(λbk=>by have:=bk.2;rw[E]at this;cases this),hK γ aI g1 Q H bd⟩;have bl:Deaf t i=0:=(G.bC i hi m).trans H;have bm:=fy.acquire (z:= {g:=i,fn:=(B5 (b.at a (.inRegion ops (j::rest)::k)) cs).frame.fn,pos:=(B5 (b.at a (.inRegion ops (j::rest)::k)) cs).frame.place,act:=.mark (.acquire ⟨γ.mu,0,o0⟩)}) (by rw[<- N];exact G.hi) Q hi rfl bl (show γ.aW i from Or.inr ⟨by rw[c.n0];exact W.n0,by rw[G.aG];exact hi⟩) (G.hi.low _ bs);refine Qh (γ':= {γ with cw:=C i}) G hi m (e:=⟨.mark (.acquire (muA s.mu)),q9,J⟩) (by simp[Zs,at2]) (λh=>by cases h) (λh=>by cases h) (λa h=>by cases h) rfl rfl rfl rfl rfl rfl rfl rfl rfl rfl rfl rfl rfl rfl rfl rfl rfl rfl hi E ?_ (λj d=> ?_) (λ_ h=>by cases h) (λj d=>rfl)
 .have e0:(t++gZ i (B5 (b.at a (.inRegion ops (j::rest)::k)) cs) #[⟨.mark (.acquire (muA s.mu)),q9,J⟩])=t++#[{g:=i,fn:=(B5 (b.at a (.inRegion ops (j::rest)::k)) cs).frame.fn,pos:=(B5 (b.at a (.inRegion ops (j::rest)::k)) cs).frame.place,act:=.mark (.acquire ⟨γ.mu,0,o0⟩)}]:=by show t++T1 _ _ _ _=_;rw[bh]
  have e1:({γ with cw:=C i}:av).gN=ae.empty:=by unfold av.gN;simp
  rw[e1,e0,<- D];exact bm
 .have d:C i=C j:=d;cases d;exact⟨hi,F⟩
def acZ(W:lJ i s)(X:gw P f fn (auB .releaseMerge)){r:List o5}{args:Array o5}(l:args=⟨.pointer (C (muA s.mu))::r⟩)(L:s.bC i=0)(M:s.cw=C i)(gd':ae)
  (N:∀γ,gV i s γ->∃mg',(∀j,j≠i->mg' j=γ.cN j)/\γ.I mg' gd'/\(γ.bC i=0->K {γ with cw:=o0,aT:=gd',cN:=mg'} (h.del gd') (.tuple #[]))) (Q:∀b x,gd' b=C x->h b=C x) (F:gd'.kK):ej P q9 ((fD P tM tW os0 Post).im i) f args s h (K:=⟨K⟩):=by
 subst l;refine .inr (.inr λb o aA b1 gH R u=>Aj λa ops j rest k cs hk l S hw γ n bn w t hr G hi m z=>.inr ?_);subst l;have c:=hr.s W.aG m;have A:γ.on=J:=c.on.trans W.on;have ad:γ.mu=s.mu:=c.mu;have aI:gV i s γ:=⟨c,G.ok,G.iM⟩;obtain⟨bk,m2,m3⟩:=G.gP A;have B:γ.wd i=.wk:=c.wd.trans W.wk;have D:γ.bC i=0:=c.bC.trans L;have p:γ.cw=C i:=c.cw.2 M;obtain⟨mg',H,k2,k3⟩:=N γ aI;have az:=s9 (rest:=rest) (main:=q9) (b:=b) (a:=a) (k:=k) (cs:=cs) (w:=w) (v:=.tuple #[]) (w':=w) (evs:=#[⟨.mark (.releaseMerge (muA s.mu)),q9,J⟩]) S hw hk R X.f X.name X.body X.next X.find
  (by rw[u];simp[auB,avS,auA]) (by rw[u];simp[auB,avS]) (by intro y E;simp at E;subst E;exact⟨rfl,λg h=>by cases h⟩)
 have a6:γ.gN=ae.empty:=by unfold av.gN;rw[p];simp
 have a7:∀(q:vb) (pos:String),T1 i q pos #[⟨.mark (.releaseMerge (muA s.mu)),q9,J⟩]=#[{g:=i,fn:=q,pos,act:=.mark (.releaseMerge ⟨γ.mu,0,o0⟩)}]:=λq pos=>by rw[auy,ad];simp[Zs,muA]
 refine⟨{γ with cw:=o0,aT:=gd',cN:=mg'},_,_,_,h.del gd',az,?_,λj d=>⟨.inr (.inr ⟨vr _,rfl,rfl,rfl,rfl,rfl,rfl,rfl,rfl,rfl,rfl,rfl,⟨(λe=>by cases e),(λe=>by rw[p]at e;exact absurd (T6 e).symm d)⟩,H j d,vr _,λe=>absurd rfl e,(λe=>by rw[p]at e;exact absurd (T6 e).symm d),λ_=>⟨rfl,rfl,rfl,vr _,λ_=>⟨rfl,rfl⟩⟩,rfl,rfl⟩),Iff.rfl⟩,λj h1 h2=>absurd h1 h2,(λa8=>by have:=a8.2;rw[B]at this;cases this),k3 D⟩;have ba:Deaf t i=0:=(G.bC i hi m).trans D;have bb:=fy.release (y:= {g:=i,fn:=(B5 (b.at a (.inRegion ops (j::rest)::k)) cs).frame.fn,pos:=(B5 (b.at a (.inRegion ops (j::rest)::k)) cs).frame.place,act:=.mark (.releaseMerge ⟨γ.mu,0,o0⟩)}) (by rw[<- a6];exact G.hi) hi rfl ba (G.hi.low _ bk) (by rw[z];exact Q) F;refine Qh (γ':= {γ with cw:=o0,aT:=gd',cN:=mg'}) G hi m (e:=⟨.mark (.releaseMerge (muA s.mu)),q9,J⟩) (by simp[Zs,at2]) (λh=>by cases h) (λh=>by cases h) (λa h=>by cases h) rfl rfl rfl rfl rfl rfl rfl rfl rfl rfl rfl rfl rfl rfl rfl rfl rfl rfl hi B ?_ (λj d=>by cases d) (λ_ _=>⟨k2,F⟩) H;have e0:(t++gZ i (B5 (b.at a (.inRegion ops (j::rest)::k)) cs) #[⟨.mark (.releaseMerge (muA s.mu)),q9,J⟩])=t++#[{g:=i,fn:=(B5 (b.at a (.inRegion ops (j::rest)::k)) cs).frame.fn,pos:=(B5 (b.at a (.inRegion ops (j::rest)::k)) cs).frame.place,act:=.mark (.releaseMerge ⟨γ.mu,0,o0⟩)}]:=by show t++T1 _ _ _ _=_;rw[a7]
 have e1:({γ with cw:=o0,aT:=gd',cN:=mg'}:av).gN=gd':=by unfold av.gN;simp[A]
 rw[e1,e0,<- z];exact bb
end
end
section
open Go.ConcM (OsLater muBlock MuAt muA msA)
section
variable{P:tb}{tM tW:ta}{os0:eI}{Post:o5->tg->Prop}{i:Nat}{s:av}{h:ae}{K:av->ae->o5->Prop}{f:vb}{fn:Func}{x:Array o5->Sem o5}{args:Array o5}
def Is(W:lJ i s){b:aS}{o:sa}{aA:su->o5}
  (hs:∀(a:Act) (ops:Array sa) (j:Nat) (rest:List Nat) (k:List Item) (cs:List Frame),b.kind≠.early->a.eval=aA->ops[j]? =C o->Region.wanted o (yielded ops a.tmps)=J->∀γ w,gV i s γ->(γ.cw=C i->γ.x.md i=.own)->MuAt tM s.mu w γ.x.mu γ.x.M->∃x' v w' evs,stepG P q9 (B5 (b.at a (.inRegion ops (j::rest)::k)) cs) w=.go (B5 (b.at (a.put o.dst v) (.inRegion ops rest::k)) cs) w' evs/\we i γ x'/\x'.M<=γ.x.M/\w'.heap.size=w.heap.size/\(∀b,b≠s.mu->w'.heap[b]? =w.heap[b]?)/\w'.heap[s.mu]? =C (muBlock tM x'.mu x'.M)/\mB w w'/\(∀e∈evs,(∃o y,e=⟨.cell ⟨s.mu,o,o0⟩,y,J⟩)\/e.loc=.mark .disable\/e.loc=.mark .enable)/\K (γ.aZ i x' evs) h v):
  lv P q9 ((fD P tM tW os0 Post).im i) b o aA s h K:=by
 refine Aj λa ops j rest k cs H m p I γ n S w t q G hi r u=>.inr ?_;have c:=q.s W.aG r;have f:γ.on=J:=c.on.trans W.on;have d:γ.mu=s.mu:=c.mu;have z:MuAt tM s.mu w γ.x.mu γ.x.M:=by rw[<- d];exact G.jy f
 have aI:gV i s γ:=⟨c,G.ok,G.iM⟩;obtain⟨L,X,m3⟩:=G.gP f;have l:γ.wd i=.wk:=c.wd.trans W.wk;have A:γ.n0<=i:=by rw[c.n0];exact W.n0
 obtain⟨x',v,w',evs,B,c4,D,c5,c6,cG,N,dk,Q⟩:=hs a ops j rest k cs H m p I γ w aI (λe=>(G.cw i e).2) z;refine⟨γ.aZ i x' evs,_,_,_,h,B,?_,Di c4.md c4.cn c4.word,Dj (λj E=>(c4.md j E).1) c4.iv (.inl D),(λF=>by have:γ.wd i=.eO:=F.2;rw[l]at this;cases this),Q⟩;rw[<- u,pt];refine G.aZ W.pos hi f l A c4.ok c4.md c4.cw c5 (λb hb=>c6 b (by rw[<- d];exact hb)) (by rw[d];exact cG) N (λe R=> ?_) _ _;rcases dk e R with⟨o',y,rfl⟩|g|g
 .exact .inr (.inr ⟨_,y,rfl,by show s.mu∈γ.sh;rw[<- d];exact L⟩)
 .exact .inl g
 .exact .inr (.inl g)
def Qi(W:lJ i s)(X:gw P f fn az0)(e:fn.norace=J)(g:∀γ n,gV i s γ->K (γ.aZ i γ.x #[]) h (.int .i64 n)):ej P q9 ((fD P tM tW os0 Post).im i) f args s h (K:=⟨K⟩):=by
 refine .inr (.inr λb o aA b1 gH c z=>Is W λa ops j rest k cs u l m v γ w aI p q=> ?_);subst l;have y:=azV (a:=a) c;have r:(az0 (b1.map a.eval)).run P w=.ok (.int .i64 ((w.os.mono+w.tick:Nat):Int)) w.later:=rfl;have t:(T0 a.eval o).runT P w #[]=(.ok (.value (.int .i64 ((w.os.mono+w.tick:Nat):Int))) w.later,#[⟨.mark (.extern f),q9,J⟩]++#[⟨.output,J,q9⟩]):=by rw[wb,y,axW X.f X.name X.body X.next X.find,r,ayV X.f X.name X.body X.next X.find];rfl
 have d:=sz (P:=P) (main:=q9) (rest:=rest) (k:=k) (cs:=cs) m v (Ir c) u t rfl;rw[seen_entry_out _ _ (by rw[X.f];exact e)]at d;exact⟨γ.x,_,w.later,#[],d,.refl aI.ok p,vr _,rfl,λ_ _=>rfl,q,⟨⟨w.tick,rfl⟩,rfl⟩,Y,g γ _ aI⟩
def ac0(W:lJ i s){b:aS}{t:ta}{k0:IntKind}(c:P.underlying t=C (.int k0))(g:(P.funcs[b.fn]?).any (·.norace)=J)(hh:h s.mu=o0)
  (hs:∀γ,gV i s γ->(γ.cw=C i->γ.x.md i=.own)->∃x',we i γ x'/\x'.M=γ.x.M/\x'.mu=γ.x.mu/\K (γ.aZ i x' #[]) h (.int .i32 γ.x.mu)):
  eX P q9 ((fD P tM tW os0 Post).im i) b t (.pointer (C (muA s.mu))) s h (K:=⟨K⟩):=by
 show if(h s.mu).isSome=J then _ else _
 rw[hh,if_neg Y];intro o aA y d l;refine Is W λa ops j rest k cs u m n v γ w aI p e=> ?_;subst m;obtain⟨x',c1,c2,c3,c4⟩:=hs γ aI p;have hc:w.cell? (muA s.mu)=C (.int .i32 γ.x.mu):=e.cellSt;have q:(T0 a.eval o).runT P w #[]=(.ok (.value (.int .i32 γ.x.mu)) w,#[⟨.cell (muA s.mu),q9,q9⟩]):=by
  rw[wb];have z:T0 a.eval o=(do pure (.value (<- avF t (.pointer (C (muA s.mu))))):Sem Next):=by unfold T0;rw[d,<- l]
  rw[z];refine Prod.ext ?_ ?_
  .simp[avF,avI,loadVar,isAgg,aBD c,hc,ava]
  .simp[avF,avI,loadVar,isAgg,aBD c,hc,axY]
 have f:=sz (P:=P) (main:=q9) (rest:=rest) (k:=k) (cs:=cs) n v (by unfold kS;rw[d]) u q rfl;have r:seen P b.fn #[⟨.cell (muA s.mu),q9,q9⟩]=#[]:=by unfold seen;simp[g]
 rw[r]at f;exact⟨x',_,w,#[],f,c1,U,rfl,λ_ _=>rfl,by rw[c3,c2];exact e,.refl _,Y,c4⟩
end
end
noncomputable def Dk:rj:=Tryz.f143.body.getD .skip
def Dl:rj:=bf Dk
def Qj:rj:=bf Dl
def ac1:=aF Qj (.region _ [_,_].toArray _) rfl
def It:rj:=bH Dl
def Iu:rj:=bf It
def Iv:rj:=bH Iu
def Iw:rj:=bH Iv
def Ix:rj:=bH Iw
def Qk:rj:=bf Ix
def ac2:=aF Qk (.region _ [_,_,_].toArray _) rfl
def ac3:=aF Ix (.seq (.region _ [_].toArray _) Qk) rfl
def ac4:=aF Iw (.cond _ Ix .skip) rfl
def ac5:=aF Iv (.seq Iw .ret) rfl
def Ql:=aF Iu (.cond _ Iv .skip) rfl
def ac6:=aF It (.seq (.region _ [_,_,_,_].toArray _) Iu) rfl
def ac7:=aF Dl (.seq It Qj) rfl
def ac8:=aF Dk (.seq (.region _ [_].toArray _) Dl) rfl
def ac9:Tryz.f143.body=C Dk:=O
def ada:fN 13 Dk=J:=O
noncomputable def Dm:rj:=ayZ.body.getD .skip
def Iy:rj:=bf Dm
def Iz:rj:=bf Iy
def IA:rj:=bf Iz
def IB:rj:=bf IA
def Dn:rj:=bf IB
def Dp:rj:=bf Dn
def IC:rj:=bH Dp
def Qm:rj:=bf IC
def adb:=aF Qm (.region _ [_,_,_].toArray _) rfl
def ade:=aF IC (.seq (.region _ [_].toArray _) Qm) rfl
def adf:=aF Dp (.cond _ IC .skip) rfl
def ID:rj:=bH Dn
def IE:rj:=bH ID
def Dq:rj:=bH IE
def Dr:rj:=bH Dq
def Am:rj:=bf Dr
def An:rj:=bf Am
def x9:rj:=bf An
def ya:rj:=bf x9
def yb:rj:=bf ya
def yc:rj:=bf yb
def Ds:rj:=bf yc
def Dt:rj:=bH Ds
def Du:rj:=bf Dt
def Dv:rj:=bf Du
def Dw:rj:=bf Dv
def IF:rj:=bf Dw
def Dx:rj:=bf IF
def Dy:rj:=bf Dx
def IG:rj:=bf Dy
def Qn:rj:=bf IG
def adg:=aF Qn (.region _ [_].toArray _) rfl
def adh:=aF IG (.seq (.region _ [_].toArray _) Qn) rfl
def IH:rj:=bH Dy
def II:rj:=bf IH
def Dz:rj:=bH II
def IJ:rj:=bf Dz
def DC:rj:=bf IJ
def IK:rj:=bf DC
def adi:=aF IK (.seq (.region _ [_,_,_,_,_].toArray _) (.exit 0)) rfl
def IL:rj:=bH DC
def IM:rj:=bf IL
def Qo:rj:=bH IM
def IN:=aF Qo (.region _ [_,_,_].toArray _) rfl
def IP:=aF IM (.cond _ Qo .skip) rfl
def Qp:=aF IL (.seq (.region _ [_,_,_,_,_,_,_].toArray _) IM) rfl
def adj:=aF DC (.seq IL IK) rfl
def adk:=aF IJ (.seq (.region _ [_].toArray _) DC) rfl
def IQ:rj:=bH Dz
def IS:rj:=bf IQ
def adl:rj:=bH IS
def adm:=aF IS (.cond _ adl .skip) rfl
def adn:=aF IQ (.seq (.region _ [_,_,_,_,_,_,_,_].toArray _) IS) rfl
def ado:=aF Dz (.seq IQ IJ) rfl
def Qq:=aF II (.cond _ Dz .skip) rfl
def Qr:=aF IH (.seq (.region _ [_,_,_].toArray _) II) rfl
def Qs:=aF Dy (.seq IH IG) rfl
def adp:=aF Dx (.seq (.region _ [_,_,_,_,_].toArray _) Dy) rfl
def Qt:=aF IF (.seq (.region _ [_,_,_,_,_,_,_,_].toArray _) Dx) rfl
def adq:=aF Dw (.seq (.region _ [_,_,_,_,_].toArray _) IF) rfl
def IT:rj:=bH Dv
def IU:rj:=bf IT
def Qu:rj:=bH IU
def adr:=aF Qu (.region _ [_,_].toArray _) rfl
def ads:=aF IU (.cond _ Qu .skip) rfl
def adt:=aF IT (.seq (.region _ [_,_].toArray _) IU) rfl
def adu:=aF Dv (.seq IT Dw) rfl
def adv:=aF Du (.seq (.region _ [_,_,_].toArray _) Dv) rfl
def IV:rj:=bH Dt
def Qv:rj:=bf IV
def Qw:=aF Qv (.cond _ (.exit 0) .skip) rfl
def Qx:=aF IV (.seq (.region _ [_,_,_].toArray _) Qv) rfl
def Qy:=aF Dt (.seq IV Du) rfl
def Qz:rj:=bf Ds
def adw:=aF Qz (.region _ [_,_,_,_,_].toArray _) rfl
def IW:=aF Ds (.cond _ Dt Qz) rfl
def adx:=aF yc (.seq (.region _ [_,_,_,_,_,_].toArray _) Ds) rfl
def IX:rj:=bH yb
def IY:rj:=bf IX
def DD:rj:=bH IY
def QA:rj:=bf DD
def ady:=aF QA (.region _ [_,_,_].toArray _) rfl
def IZ:rj:=bH DD
def I0:rj:=bf IZ
def adz:rj:=bH I0
def adA:=aF I0 (.cond _ adz .skip) rfl
def adB:=aF IZ (.seq (.region _ [_,_,_].toArray _) I0) rfl
def adC:=aF DD (.seq IZ QA) rfl
def QB:=aF IY (.cond _ DD .skip) rfl
def QC:=aF IX (.seq (.region _ [_].toArray _) IY) rfl
def QD:=aF yb (.seq IX yc) rfl
def I1:rj:=bH ya
def I2:rj:=bf I1
def QG:rj:=bH I2
def adD:=aF QG (.region _ [_,_,_].toArray _) rfl
def adE:=aF I2 (.cond _ QG .skip) rfl
def adF:=aF I1 (.seq (.region _ [_,_,_,_,_,_].toArray _) I2) rfl
def adG:=aF ya (.seq I1 yb) rfl
def I3:rj:=bH x9
def I6:rj:=bf I3
def QH:rj:=bH I6
def adH:=aF QH (.region _ [_,_,_].toArray _) rfl
def adI:=aF I6 (.cond _ QH .skip) rfl
def adJ:=aF I3 (.seq (.region _ [_,_,_].toArray _) I6) rfl
def adK:=aF x9 (.seq I3 ya) rfl
def I7:rj:=bH An
def I8:rj:=bf I7
def QI:rj:=bH I8
def adL:=aF QI (.region _ [_,_,_].toArray _) rfl
def adM:=aF I8 (.cond _ QI .skip) rfl
def adN:=aF I7 (.seq (.region _ [_,_,_].toArray _) I8) rfl
def adO:=aF An (.seq I7 x9) rfl
def adP:=aF Am (.seq (.region _ [_,_].toArray _) An) rfl
def I9:rj:=bH Dr
def Ja:rj:=bf I9
def Ao:rj:=bH Ja
def Ap:rj:=bf Ao
def Jb:rj:=bf Ap
def QJ:rj:=bf Jb
def adQ:=aF QJ (.seq (.region _ [_,_,_,_,_].toArray _) (.exit 1)) rfl
def adR:=aF Jb (.seq (.region _ [_,_,_].toArray _) QJ) rfl
def adS:=aF Ap (.seq (.region _ [_].toArray _) Jb) rfl
def Jc:rj:=bH Ao
def Jd:rj:=bf Jc
def QK:rj:=bH Jd
def adT:=aF QK (.region _ [_].toArray _) rfl
def DF:=aF Jd (.cond _ QK .skip) rfl
def DG:=aF Jc (.seq (.region _ [_,_,_,_,_,_,_,_,_,_,_,_,_,_,_,_,_,_,_,_,_].toArray _) Jd) rfl
def DH:=aF Ao (.seq Jc Ap) rfl
def QL:=aF Ja (.cond _ Ao .skip) rfl
def QM:=aF I9 (.seq (.region _ [_,_,_,_,_,_,_].toArray _) Ja) rfl
def QN:=aF Dr (.seq I9 Am) rfl
def QO:=aF Dq (.block _ Dr) rfl
def adU:=aF IE (.loop Dq) rfl
def adV:=aF ID (.block _ IE) rfl
def adW:=aF Dn (.seq ID Dp) rfl
def adX:=aF IB (.seq (.region _ [_,_,_,_,_].toArray _) Dn) rfl
def adY:=aF IA (.seq (.region _ [_].toArray _) IB) rfl
def adZ:=aF Iz (.seq (.region _ [_].toArray _) IA) rfl
def ad0:=aF Iy (.seq (.region _ [_].toArray _) Iz) rfl
def ad1:=aF Dm (.seq (.region _ [_].toArray _) Iy) rfl
def ad2:ayZ.body=C Dm:=O
def ad3:fN 139 Dm=J:=O
noncomputable def Aq:rj:=ay0.body.getD .skip
def Je:rj:=bf Aq
def Ar:rj:=bf Je
def Jf:rj:=bf Ar
def ad4:=aF Jf (.region _ [_].toArray _) rfl
def Jg:rj:=bH Ar
def Jh:rj:=bf Jg
def QP:rj:=bH Jh
def ad5:=aF QP (.region _ [_,_,_].toArray _) rfl
def QQ:=aF Jh (.cond _ QP .skip) rfl
def QR:=aF Jg (.seq (.region _ [_,_].toArray _) Jh) rfl
def QS:=aF Ar (.seq Jg Jf) rfl
def ad6:=aF Je (.seq (.region _ [_,_,_,_,_].toArray _) Ar) rfl
def Ji:rj:=bH Aq
def Jj:rj:=bH Ji
def Jk:rj:=bf Jj
def QT:rj:=bf Jk
def ad7:=aF QT (.region _ [_].toArray _) rfl
def ad8:=aF Jk (.seq (.region _ [_,_,_].toArray _) QT) rfl
def ad9:=aF Jj (.seq (.region _ [_,_,_,_].toArray _) Jk) rfl
def aea:=aF Ji (.cond _ Jj .skip) rfl
def aeb:=aF Aq (.seq Ji Je) rfl
def aec:ay0.body=C Aq:=O
def aed:fN 21 Aq=J:=O
noncomputable def As:rj:=az1.body.getD .skip
def Jl:rj:=bf As
def DI:rj:=bf Jl
def Jm:rj:=bH DI
def DJ:rj:=bf Jm
def Jn:rj:=bH DJ
def DK:rj:=bH Jn
def DL:rj:=bH DK
def Jo:rj:=bf DL
def DN:rj:=bf Jo
def QU:rj:=bf DN
def aee:=aF QU (.region _ [_,_,_,_,_].toArray _) rfl
def Jp:rj:=bH DN
def Jq:rj:=bf Jp
def QV:rj:=bH Jq
def aef:=aF QV (.seq (.region _ [_,_,_,_].toArray _) .ret) rfl
def QW:=aF Jq (.cond _ QV .skip) rfl
def aeg:=aF Jp (.seq (.region _ [_,_,_,_,_,_].toArray _) Jq) rfl
def aeh:=aF DN (.seq Jp QU) rfl
def aei:=aF Jo (.seq (.region _ [_,_,_,_].toArray _) DN) rfl
def Jr:rj:=bH DL
def QX:rj:=bf Jr
def Js:=aF QX (.cond _ .ret .skip) rfl
def Jt:=aF Jr (.seq (.region _ [_,_,_,_,_,_,_,_].toArray _) QX) rfl
def Ju:=aF DL (.seq Jr Jo) rfl
def Jv:=aF DK (.block _ DL) rfl
def aej:=aF Jn (.loop DK) rfl
def aek:=aF DJ (.block _ Jn) rfl
def ael:=aF Jm (.seq (.region _ [_,_].toArray _) DJ) rfl
def QY:rj:=bf DI
def aem:=aF QY (.region _ [_,_,_,_].toArray _) rfl
def QZ:=aF DI (.cond _ Jm QY) rfl
def Q5:=aF Jl (.seq (.region _ [_,_,_].toArray _) DI) rfl
def Jw:rj:=bH As
def Jx:rj:=bf Jw
def aen:rj:=bH Jx
def Q6:=aF Jx (.cond _ aen .skip) rfl
def Ra:=aF Jw (.seq (.region _ [_,_,_,_].toArray _) Jx) rfl
def Rb:=aF As (.seq Jw Jl) rfl
def aeo:az1.body=C As:=O
def aep:fN 43 As=J:=O
section
open Go.ConcM (OsLater muBlock MuAt muA msA)
def Rc(a b c d:Nat)(hc:c<8)(hd:d<8):(8*a+c) &&& (8*b+d)=8*(a &&& b)+(c &&& d):=by have h:c &&& d<2^3:=Nat.and_lt_two_pow c (by simpa using hd);apply az2;intro j;have e:=aw3 (i:=3) a (b:=c) (by simpa using hc) j;have f:=aw3 (i:=3) b (b:=d) (by simpa using hd) j;have g:=aw3 (i:=3) (a &&& b) h j;simp only[ax0]at e f g;rw[az3,e,f,g];split<;>simp[az3]
def aeq(a b c d:Nat)(hc:c<8)(hd:d<8):(8*a+c) ||| (8*b+d)=8*(a ||| b)+(c ||| d):=by have h:c ||| d<2^3:=aBE (by simpa using hc) (by simpa using hd);apply az2;intro j;have e:=aw3 (i:=3) a (b:=c) (by simpa using hc) j;have f:=aw3 (i:=3) b (b:=d) (by simpa using hd) j;have g:=aw3 (i:=3) (a ||| b) h j;simp only[ax0]at e f g;rw[azT,e,f,g];split<;>simp[azT]
def wrap32{n:Nat}(h:n<2147483648):awh.wrap (n:Int)=n:=by simp only[aur,auQ,auR];simp;omega
def yd{n:Nat}(h:n<2147483648):(avT 32 (n:Int)).toNat=n:=by rw[BitVec.toNat_ofInt];simp;omega
section
variable{P:tb}{h:ae}{xt:ta}{x y:su}[K:KK o5]{W c:Nat}
def Jy{op:BinOp}{a b:Int}{r:Nat}(c:op=.and\/op=.or\/op=.andNot)(d:Op.intBits op .i32 a b=pure (.int .i32 r))(Q:o5->ae->Prop):aH P (do W2 op xt x y (.int .i32 a) (.int .i32 b);binOp op xt (.int .i32 a) (.int .i32 b)) h Q=Q (.int .i32 r) h:=by
 rcases c with rfl|rfl|rfl<;>simp[W2,binOp,aR,d]
def aer{n q:Nat}(a:n<2147483648)(b:q<2147483648):al P (bN .and xt x y (.int .i32 (n:Nat)) (.int .i32 (q:Nat))) h=K.f (.int .i32 (n &&& q:Nat)) h:=Jy (.inl rfl) (by have hb:n &&& q<2147483648:=avQ az4 a;show(pure (Value.int .i32 (awh.wrap ((avT 32 (n:Int)) &&& (avT 32 (q:Int))).toNat)):Sem o5)=_;rw[az5,yd a,yd b,wrap32 hb]) K.f
def aes{n q:Nat}(a:n<2147483648)(b:q<2147483648):al P (bN .or xt x y (.int .i32 (n:Nat)) (.int .i32 (q:Nat))) h=K.f (.int .i32 (n ||| q:Nat)) h:=Jy (.inr (.inl rfl)) (by have hb:n ||| q<2^31:=aBE (by simpa using a) (by simpa using b);show(pure (Value.int .i32 (awh.wrap ((avT 32 (n:Int)) ||| (avT 32 (q:Int))).toNat)):Sem o5)=_;rw[BitVec.toNat_or,yd a,yd b,wrap32 (by simpa using hb)]) K.f
def aet{n q:Nat}(a:n<2147483648)(b:q<2147483648):al P (bN .andNot xt x y (.int .i32 (n:Nat)) (.int .i32 (q:Nat))) h=K.f (.int .i32 (n &&& (4294967295- q):Nat)) h:=Jy (.inr (.inr rfl)) (by have hb:n &&& (4294967295- q)<2147483648:=avQ az4 a;show(pure (Value.int .i32 (awh.wrap ((avT 32 (n:Int)) &&& ~~~(avT 32 (q:Int))).toNat)):Sem o5)=_;rw[az5,BitVec.toNat_not,yd a,yd b,(U:2^32- 1- q=4294967295- q),wrap32 hb]) K.f
def aeu{q:Nat}(hc:c<8)(a:q<8):(8*W+c) &&& q=c &&& q:=by have:=Rc W 0 c q hc a;simpa using this
def aev{q:Nat}(hc:c<8)(a:q<8):(8*W+c) ||| q=8*W+(c ||| q):=by have:=aeq W 0 c q hc a;simpa using this
def ye{q:Nat}(b:W<134217728)(hc:c<8)(a:q<8):al P (bN .and xt x y (.int .i32 (8*W+c:Nat)) (.int .i32 (q:Nat))) h=K.f (.int .i32 (c &&& q:Nat)) h:=by rw[aer U U,aeu hc a]
def JA{q:Nat}(b:W<134217728)(hc:c<8)(a:q<8):al P (bN .or xt x y (.int .i32 (8*W+c:Nat)) (.int .i32 (q:Nat))) h=K.f (.int .i32 (8*W+(c ||| q):Nat)) h:=by rw[aes U U,aev hc a]
def aew(d:W<134217728)(hc:c<8):al P (bN .andNot xt x y (.int .i32 (8*W+c:Nat)) (.int .i32 2)) h=K.f (.int .i32 (8*W+(c &&& 5):Nat)) h:=by
 have e:=aet (P:=P) (h:=h) (xt:=xt) (x:=x) (y:=y) (K:=K) (n:=8*W+c) (q:=2) U U;rw[(atz:((2:Nat):Int)=2)]at e;rw[e];have a:=Rc W 536870911 c 5 hc U;have b:W &&& 536870911=W:=by have:=Nat.and_two_pow_sub_one_eq_mod W 29;simp only[ax0,Nat.reduceSub]at this;rw[this];omega
 rw[b]at a;rw[(atz:4294967295- 2=8*536870911+5),a]
def aex(a:W<134217728)(hc:c<8):al P (bN .and xt x y (.int .i32 (8*W+c:Nat)) (.int .i32 5)) h=K.f (.int .i32 (c &&& 5:Nat)) h:=ye (q:=5) a hc U
def aey(a:W<134217728)(hc:c<8):al P (bN .and xt x y (.int .i32 (8*W+c:Nat)) (.int .i32 7)) h=K.f (.int .i32 (c &&& 7:Nat)) h:=ye (q:=7) a hc U
def aez(a:W<134217728)(hc:c<8):al P (bN .and xt x y (.int .i32 (8*W+c:Nat)) (.int .i32 4)) h=K.f (.int .i32 (c &&& 4:Nat)) h:=ye (q:=4) a hc U
def aeA(a:W<134217728)(hc:c<8):al P (bN .and xt x y (.int .i32 (8*W+c:Nat)) (.int .i32 3)) h=K.f (.int .i32 (c &&& 3:Nat)) h:=ye (q:=3) a hc U
def aeB(a:W<134217728)(hc:c<8):al P (bN .and xt x y (.int .i32 (8*W+c:Nat)) (.int .i32 2)) h=K.f (.int .i32 (c &&& 2:Nat)) h:=ye (q:=2) a hc U
def aeC(a:W<134217728)(hc:c<8):al P (bN .and xt x y (.int .i32 (8*W+c:Nat)) (.int .i32 1)) h=K.f (.int .i32 (c &&& 1:Nat)) h:=ye (q:=1) a hc U
def aeD(a:W<134217728)(hc:c<8):al P (bN .or xt x y (.int .i32 (8*W+c:Nat)) (.int .i32 1)) h=K.f (.int .i32 (8*W+(c ||| 1):Nat)) h:=JA (q:=1) a hc U
def aeE(a:W<134217728)(hc:c<8):al P (bN .or xt x y (.int .i32 (8*W+c:Nat)) (.int .i32 2)) h=K.f (.int .i32 (8*W+(c ||| 2):Nat)) h:=JA (q:=2) a hc U
def aeF(a:W<134217728)(hc:c<8):al P (bN .or xt x y (.int .i32 (8*W+c:Nat)) (.int .i32 4)) h=K.f (.int .i32 (8*W+(c ||| 4):Nat)) h:=JA (q:=4) a hc U
def aeG(a:W<134217728)(hc:c<8):al P (bN .add xt x y (.int .i32 (8*W+c:Nat)) (.int .i32 8)) h=K.f (.int .i32 (8*(W+1)+c:Nat)) h:=by rw[sJ,(U:((8*W+c:Nat):Int)+8=((8*(W+1)+c:Nat):Int)),wrap32 U]
def aeH(a:W<134217728)(hc:c<8)(h0:0<W):al P (bN .sub xt x y (.int .i32 (8*W+c:Nat)) (.int .i32 8)) h=K.f (.int .i32 (8*(W- 1)+c:Nat)) h:=by rw[xA,(U:((8*W+c:Nat):Int)- 8=((8*(W- 1)+c:Nat):Int)),wrap32 U]
def aeI(hc:c<8):al P (bN .shr xt x y (.int .i32 (8*W+c:Nat)) (.int .u64 3)) h=K.f (.int .i32 (W:Nat)) h:=by
 have e:Op.shift .shr .i32 ((8*W+c:Nat):Int) .u64 3=pure (.int .i32 (W:Nat)):=by simp only[Op.shift];rw[if_neg U];simp only[(atz:min (3:Int).toNat awh.bits=3)];rw[(atz:(2:Int)^3=8),Int.fdiv_eq_ediv_of_nonneg _ U];congr 2;omega
 revert e;generalize(((8*W+c:Nat)):Int)=z;intro e;simp[al,bN,W2,binOp,aR,e]
end
def At:gw pv 171 Tryz.f171 (azX (.int .i32)):=⟨Tryz.func171,O,O,O,O⟩
def Rd:gw pv 173 Tryz.f173 (axZ (Op.intArith .add) .i32 J):=⟨Tryz.func173,O,O,O,O⟩
def Re:gw pv 127 Tryz.f127 (auB .releaseMerge):=⟨Tryz.func127,O,O,O,O⟩
def yg:gw pv 148 Tryz.f148 (auB .acquire):=⟨Tryz.func148,O,O,O,O⟩
def rO:gw pv 128 Tryz.f128 (λ_=>do mark .disable;pure auA):=⟨Tryz.func128,O,O,O,O⟩
def kX:gw pv 129 Tryz.f129 (λ_=>do mark .enable;pure auA):=⟨Tryz.func129,O,O,O,O⟩
def aeJ:gw pv 196 Tryz.f196 aBB:=⟨Tryz.func196,O,O,O,O⟩
def aeK:gw pv 197 Tryz.f197 aBC:=⟨Tryz.func197,O,O,O,O⟩
def Rf:gw pv 199 Tryz.f199 az0:=⟨Tryz.func199,O,O,O,O⟩
def aeL:gw pv 200 Tryz.f200 awf:=⟨Tryz.func200,O,O,O,O⟩
def aeM:gw pv 202 Tryz.f202 aw2:=⟨Tryz.func202,O,O,O,O⟩
def DO:(pv.funcs[172]?).any (·.norace)=J:=O
def aeN:(pv.funcs[174]?).any (·.norace)=J:=O
def aeO:(pv.funcs[147]?).any (·.norace)=J:=O
def Rg:Tryz.f199.norace=J:=O
def Rh:pv.underlying 21=C (.int .i32):=O
end
section
open Go.ConcM (OsLater muBlock MuAt muA msA)
structure qL(i:Nat)(a b:av):Prop where
 aG:a.aG<=b.aG
 cap:b.cap=a.cap
 n0:b.n0=a.n0
 mu:b.mu=a.mu
 wg:b.wg=a.wg
 on:b.on=a.on
 I:b.I=a.I
 full:b.full=a.full
 wd:b.wd i=a.wd i
def qL.refl(i:Nat)(a:av):qL i a a:=⟨vr _,rfl,rfl,rfl,rfl,rfl,rfl,rfl,rfl⟩
def qL.trans{i:Nat}{a b c:av}(h:qL i a b)(k:qL i b c):qL i a c:=⟨atD h.aG k.aG,k.cap.trans h.cap,k.n0.trans h.n0,k.mu.trans h.mu,k.wg.trans h.wg,k.on.trans h.on,k.I.trans h.I,k.full.trans h.full,k.wd.trans h.wd⟩
def qL.rel{i:Nat}{a b:av}(h:av.lI i a b):qL i a b:=⟨h.aG,h.cap,h.n0,h.mu,h.wg,h.on,h.I,h.full,h.wd⟩
def lJ.cP{i:Nat}{a b:av}(w:lJ i a)(k:qL i a b):lJ i b:=⟨w.pos,k.on.trans w.on,k.wd.trans w.wk,by rw[k.n0];exact w.n0,auj w.aG k.aG⟩
structure dI(i:Nat)(aP s:av)(m:aN)(bC b:Nat)(t:Bool)(g:List cV):Prop where
 w:lJ i s
 cap:i<s.cap
 df:s.cap<=s.n0+8
 cP:qL i aP s
 md:s.x.md i=m
 dc:s.x.dc i=b
 bC:s.bC i=bC
 cw:s.cw=C i↔t=J
 cN:s.cN i=g
section
variable{i:Nat}{aP s γ:av}{m dG:aN}{bC Ri b bG:Nat}{t:Bool}{g:List cV}
def dI.rel(c:dI i aP s m bC b t g)(aI:gV i s γ):dI i aP γ m bC b t g:=have k:=qL.rel aI.rel
 ⟨c.w.cP k,by rw[k.cap];exact c.cap,by rw[k.cap,k.n0];exact c.df,c.cP.trans k,aI.rel.md.trans c.md,aI.rel.dc.trans c.dc,aI.rel.bC.trans c.bC,aI.rel.cw.trans c.cw,aI.rel.cN.trans c.cN⟩
def dI.aZ(c:dI i aP s m bC b t g)(aI:gV i s γ){x':cK}{evs:Array R1}(h1:x'.md i=dG)(a:x'.dc i=bG)(d:A0 bC evs=Ri):dI i aP (γ.aZ i x' evs) dG Ri bG t g:=by have c:=c.rel aI;exact⟨⟨c.w.pos,c.w.on,c.w.wk,c.w.n0,c.w.aG⟩,c.cap,c.df,⟨c.cP.aG,c.cP.cap,c.cP.n0,c.cP.mu,c.cP.wg,c.cP.on,c.cP.I,c.cP.full,c.cP.wd⟩,h1,a,by show at7 γ.bC i (A0 (γ.bC i) evs) i=_;rw[atY,c.bC,d],c.cw,c.cN⟩
def l9(s:av)(p:Nat)(v:Nat):Prop:=s.x.cn s.cap<=p/\(s.x.mu≠v->s.x.cn s.cap<p)
def l9.rel{p v:Nat}(o:l9 s p v)(aI:gV i s γ):l9 γ p v:=by
 have h1:=aI.rel.cn;have a:=aI.rel.word;unfold l9 at*
 rw[aI.rel.cap];refine⟨U,λh=> ?_⟩;by_cases e:γ.x.mu=s.x.mu
 .have:=o.2 (by rw[<- e];exact h);omega
 .have:=a e;omega
def l9.aZ{p v:Nat}(o:l9 s p v)(aI:gV i s γ){x':cK}{evs:Array R1}(h1:x'.cn γ.cap<=γ.x.cn γ.cap)(a:x'.mu≠γ.x.mu->x'.cn γ.cap<γ.x.cn γ.cap):l9 (γ.aZ i x' evs) p v:=by
 have o:=o.rel aI;unfold l9 at*
 refine⟨atD h1 o.1,λh=> ?_⟩;have h:x'.mu≠v:=h;by_cases e:x'.mu=γ.x.mu
 .have:=o.2 (by rw[<- e];exact h);exact avQ h1 this
 .exact auj (a e) o.1
def l9.new{γ:av}:l9 γ (γ.x.cn γ.cap) γ.x.mu:=⟨vr _,λh=>absurd rfl h⟩
def JB{n:Nat}{f:aN->Nat}{md:Nat->aN}(a:∀x,f x<=1):cnt n f md<=n:=by
 induction n with
 |zero=>simp[cnt,at6]
 |succ n b=>simp only[cnt,at6]at b ⊢;have:=a (md n);omega
def cK.dF.kI{n:Nat}{x:cK}(h:x.dF n):x.W<=3*n/\x.M<=1:=by
 have a1:=JB (n:=n) (f:=aN.iH) (md:=x.md) (by intro y;cases y<;>simp[aN.iH]);have a2:=JB (n:=n) (f:=aN.iq) (md:=x.md) (by intro y;cases y<;>simp[aN.iq]);have a3:=JB (n:=n) (f:=aN.ir) (md:=x.md) (by intro y;cases y<;>simp[aN.ir]);have a:=h.k1;have b:=h.s1;rcases(U:x.S=0\/x.S=1)with e|e
 .have:=h.n0 e;omega
 .have:=h.aP e;omega
def JC{n lo:Nat}{f:aN->Nat}{md:Nat->aN}(b:∀y,f y<=1)(h0:f .out=0)(iM:∀j,md j≠.out->lo<=j):cnt n f md<=n- lo:=by
 induction n with
 |zero=>simp[cnt,at6]
 |succ n c=>
  simp only[cnt,at6]at c ⊢;have h1:=b (md n);by_cases a:md n=.out
  .rw[a,h0];omega
  .have:=iM n a;omega
def cK.dF.te{n lo:Nat}{x:cK}(h:x.dF n)(iM:∀j,x.md j≠.out->lo<=j)(a:n<=lo+8):x.W<=24:=by
 have a1:=JC (n:=n) (f:=aN.iH) (by intro y;cases y<;>simp[aN.iH]) rfl iM;have a2:=JC (n:=n) (f:=aN.iq) (by intro y;cases y<;>simp[aN.iq]) rfl iM;have a3:=JC (n:=n) (f:=aN.ir) (by intro y;cases y<;>simp[aN.ir]) rfl iM;have b:=h.k1;have c:=h.s1;rcases(U:x.S=0\/x.S=1)with e|e
 .have:=h.n0 e;omega
 .have:=h.aP e;omega
def cK.dF.dec{n:Nat}{x:cK}(h:x.dF n)(a:x.W<=24):x.mu=8*x.W+(x.L+2*x.K+4*x.S)/\x.L+2*x.K+4*x.S<8/\x.W<100000000:=by have:=h.kI;have:=h.k1;have:=h.s1;have:=h.fv;unfold cK.mu;omega
end
end
section
open Go.ConcM (OsLater muBlock MuAt muA msA)
def aeP:((0:Nat):Int)=0:=rfl
def aeQ:((1:Nat):Int)=1:=rfl
def aeR:((2:Nat):Int)=2:=rfl
def aeS:((3:Nat):Int)=3:=rfl
def yh:((4:Nat):Int)=4:=rfl
def aeT:((5:Nat):Int)=5:=rfl
def aeU:((6:Nat):Int)=6:=rfl
def aeV:((7:Nat):Int)=7:=rfl
def lK:=aD (aD (aD (aD @aeC @aeB) (aD @aeA @aez)) (aD (aD @aex @aey) (aD @aeD @aeE))) (aD (aD (aD @aeF @aew) (aD @aeG @aeH)) (aD @aeI (aD (aD (aD aeP aeQ) (aD aeR aeS)) (aD (aD yh aeT) (aD aeU aeV)))))
def pJ{h:ae}{m:Nat}[K:KK o5]:al pv (at3 201 (.pointer (C ⟨m,0,o0⟩)) 0) h=K.f (.pointer (C ⟨m,0,o0⟩)) h:=m1 (ft:=21) (m:=0) (i:=0) aBI rfl rfl O
def JD{h:ae}{m:Nat}[K:KK o5]:al pv (at3 201 (.pointer (C ⟨m,0,o0⟩)) 1) h=K.f (.pointer (C ⟨m,1,o0⟩)) h:=m1 (ft:=199) (m:=0) (i:=1) aBI rfl rfl O
def Rj{h:ae}{m:Nat}[K:KK o5]:al pv (at3 203 (.pointer (C ⟨m,0,o0⟩)) 1) h=K.f (.pointer (C ⟨m,0,o0⟩)) h:=m1 (ft:=201) (m:=1) (i:=1) Tryz.underlying203 rfl rfl O
def fA(k:Nat)(e e':Env):Prop:=∀t,t<k->e' t=e t
def fA.refl(k:Nat)(e:Env):fA k e e:=λ_ _=>rfl
def fA.upd{k d:Nat}{e e':Env}{v:o5}(h:fA k e e')(hd:k<=d):fA k e (upd e' d v):=λt a=>by rw[aL,if_neg U];exact h t a
section
variable{main:Bool}{ai:Type}{S:Sys ai}{b:aS}{K:eM->Env->List Deferred->ai->ae->Prop}{e:Env}{d:List Deferred}{s:ai}{h:ae}{W c:Nat}
def bK(c:Nat):Nat:=if c &&& 4=0 then c ||| 1 else c
def aeW(j:W<100000000)(hc:c<8)(i:e 6=.int .i32 (8*W+c:Nat))(a:e 7=.int .i32 (8*W+c:Nat))
  (k:∀e',fA 7 e e'->e' 7=.int .i32 (8*W+bK c:Nat)->cB pv main S 139 b x9 K e' d s h):cB pv main S 139 b An K e d s h:=by
 have f:W<134217728:=U
 have g:c=0\/c=1\/c=2\/c=3\/c=4\/c=5\/c=6\/c=7:=U
 rcases g with rfl|rfl|rfl|rfl|rfl|rfl|rfl|rfl<;>simp only[aO,seval,adO,adN,adM,adL,i,a,lK,seval,f]<;>exact k _ (by repeat (first|exact fA.refl _ _|refine fA.upd ?_ U)) (by simp[aL,bK,a])
def bR(W c:Nat):Nat:=if c &&& 5=0 then W else W+1
def aeX{x:Nat}(i:x<8)(l:W<100000000)(hc:c<8)(j:e 6=.int .i32 (8*W+c:Nat))(a:e 7=.int .i32 (8*W+x:Nat))
  (k:∀e',fA 7 e e'->e' 7=.int .i32 (8*(bR W c)+x:Nat)->cB pv main S 139 b ya K e' d s h):cB pv main S 139 b x9 K e d s h:=by
 have f:W<134217728:=U
 have g:c=0\/c=1\/c=2\/c=3\/c=4\/c=5\/c=6\/c=7:=U
 rcases g with rfl|rfl|rfl|rfl|rfl|rfl|rfl|rfl<;>simp only[aO,seval,adK,adJ,adI,adH,j,a,lK,bne,seval,f,i]<;>exact k _ (by repeat (first|exact fA.refl _ _|refine fA.upd ?_ U)) (by simp[aL,bR,a])
def cQ(c x:Nat)(st:Bool):Nat:=if st=J/\c &&& 1≠0 then x ||| 4 else x
def aeY{Vz x:Nat}{st:Bool}(j:x<8)(f:Vz<134217728)(n:W<100000000)(hc:c<8)(l:e 3=.bool st)(m:e 6=.int .i32 (8*W+c:Nat))(a:e 7=.int .i32 (8*Vz+x:Nat))
  (k:∀e',fA 7 e e'->e' 7=.int .i32 (8*Vz+cQ c x st:Nat)->cB pv main S 139 b yb K e' d s h):cB pv main S 139 b ya K e d s h:=by
 have g:W<134217728:=U
 have i:c=0\/c=1\/c=2\/c=3\/c=4\/c=5\/c=6\/c=7:=U
 rcases i with rfl|rfl|rfl|rfl|rfl|rfl|rfl|rfl<;>cases st<;>simp only[aO,undef,seval,adG,adF,adE,adD,l,m,a,lK,bne,seval,g,f,j]<;>exact k _ (by repeat (first|exact fA.refl _ _|refine fA.upd ?_ U)) (by simp[aL,cQ,a])
def n4(x:Nat)(aw:Bool):Nat:=if aw=J then x &&& 5 else x
def aeZ{Vz x:Nat}{aw:Bool}(j:x<8)(g:Vz<134217728)(c:e 4=.bool aw)(f:e 7=.int .i32 (8*Vz+x:Nat))(a:aw=J->x &&& 2≠0)
  (k:∀e',fA 7 e e'->e' 7=.int .i32 (8*Vz+n4 x aw:Nat)->cB pv main S 139 b yc K e' d s h):cB pv main S 139 b yb K e d s h:=by
 have i:x=0\/x=1\/x=2\/x=3\/x=4\/x=5\/x=6\/x=7:=U
 cases aw with
 |false=>simp only[aO,seval,QD,QC,QB,c];exact k _ (by repeat (first|exact fA.refl _ _|refine fA.upd ?_ U)) (by simp[aL,n4,f])
 |true=>have a:=a rfl;rcases i with rfl|rfl|rfl|rfl|rfl|rfl|rfl|rfl<;>(first|exact absurd rfl a|skip)<;>simp only[aO,seval,QD,QC,QB,adC,ady,adB,adA,c,f,lK,seval,g]<;>exact k _ (by repeat (first|exact fA.refl _ _|refine fA.upd ?_ U)) (by simp[aL,n4])
def dq(c:Nat)(st aw:Bool):Nat:=n4 (cQ c (bK c) st) aw
def ae0{st aw:Bool}(i:W<100000000)(hc:c<8)(v:e 3=.bool st)(w:e 4=.bool aw)(f:e 6=.int .i32 (8*W+c:Nat))(x:aw=J->c &&& 2≠0)
  (k:∀e',fA 7 e e'->e' 7=.int .i32 (8*(bR W c)+dq c st aw:Nat)->cB pv main S 139 b yc K e' d s h):cB pv main S 139 b Am K e d s h:=by
 have j:∀c<8,bK c<8:=aty
 have o:∀c<8,∀st,cQ c (bK c) st<8:=aty
 have p:∀c<8,∀st,c &&& 2≠0->cQ c (bK c) st &&& 2≠0:=aty
 have l:bR W c<134217728:=by unfold bR;split<;>omega
 simp only[aO,seval,adP,f];refine aeW i hc (by simp[aL,f]) (by simp[aL]) λe1 y z=> ?_;have m:fA 7 e e1:=λt a=>by rw[y t a];simp only[aL];rw[if_neg U,if_neg U]
 refine aeX (j c hc) i hc (by rw[m 6 U,f]) z λe2 q A=> ?_;have g:fA 7 e e2:=λt a=>by rw[q t a,m t a]
 refine aeY (st:=st) (j c hc) l i hc (by rw[g 3 U,v]) (by rw[g 6 U,f]) A λe3 r B=> ?_;have n:fA 7 e e3:=λt a=>by rw[r t a,g t a]
 refine aeZ (aw:=aw) (o c hc st) l (by rw[n 4 U,w]) B (λh=>p c hc st (x h)) λD u E=> ?_;exact k D (λt a=>by rw[u t a,n t a]) E
end
end
end
end Go.Nk
