/- Part Paq of the proof of ButtTexts: lemmas. -/
import Derived.Conc.Own2
import Derived.Test.YthgephlghkjiaaaGreatDoorPap
set_option maxRecDepth 100000
set_option maxHeartbeats 4000000
set_option linter.all false
namespace Go.Nk
noncomputable section
open Go Go.Conc Go.Proofs
open _root_.Array renaming append_empty->axE,getD_eq_getD_getElem?->auZ,size_eq_zero_iff->aBT,getElem_mem->aBU,mem_filter->ax2,map->axy,empty_append->axc,replicate->avf,getElem?_eq_some_iff->auv
open Bool renaming false->q9,true->J,false_eq_true->N2,and_false->auV,and_true->awH
open Go renaming TypeId->ta,Value->o5,World->tg,FuncId->vb,Frame->vH,deafBehind->A0,asAddr->auh,Program->tb,Deferred->tc,stepG->vx,getObj->awa,setObj->avx,undef->vk,Code->rj,Oper->sa,MapEntry->HP
open Go.Conc renaming aside_setCell->au3,G->B5
open Go.ConcN renaming upd_same->atY
open Go.Extern.Atomic renaming none_->aAh,read->awI,update->axZ
open Go.Extern.Race renaming marked->auB,at_->avS,none_->auA
open Go.Frame renaming enter->aue
open Go.Instr renaming takeDeferred->ayx,range->ayy,next->ayz,entry->aAi,extract->avo
open Go.Proofs.Tryz renaming prog->pv,f68->ax1,f58->ay6
open Go.Region renaming binds->atV,schedule->atM,wanted->R9
open List renaming toArray->axT,map_cons->atS,nodup_cons->aAj,mem_cons->B4,mem_map->aui,filter_congr->aBV,filter_cons_of_pos->aAk,filter_cons_of_neg->aAl,sum_cons->ay5,length->av2,getElem?_eq_some_iff->F1
open Nat renaming le_refl->vr,lt_of_lt_of_le->auj,pos_of_ne_zero->aBS
open Option renaming some->C,none->o0,bind_eq_some_iff->auK
section
variable{tM tW:ta}{os0:eI}{Post:o5->tg->Prop}{i:Nat}{aP s:av}{h:ae}{bd bB fb bb ts l:Nat}{fC:vb}{fF:Array o5}{L:Loop}{e0:Env}{nf:bX->bX->Int}{gf:bX->bX->Bool}{B:ae->Prop}{g:List cV}
def ai4{a b:bX}(D:a∈dm)(hb:b∈dm)(R:ai1 h bB fb bb ts l fC fF L e0)(t:uH q9 (dY tM tW os0 Post i) B fC fF nf gf)(H:B h)(hm:aP.mu=bB)(P:aP.I=pK aP.n0 fb bb)(Q:fb≠bb)
  (M:dI i aP s .out 0 (bd+1) q9 g):
  pM q9 (dY tM tW os0 Post i) l a b s h λN=>∃E,bd<=E/\dI i aP N .out 0 E q9 (if gf a b then g++[(nf a b,[a,b])]else g):=by
 intro h1 f k' u v S;have j:=u _ _ R.AI;refine⟨L,J,16,j,R.pa,?_⟩;rw[R.fn,R.as_,R.ai2];have r:=rE (dst:=C 16) R.rel aty (.slice (C ⟨f,0,o0⟩) 2 k');refine JJ (n:=38) (e:=upd e0 16 (.slice (C ⟨f,0,o0⟩) 2 k')) r O O ?_;simp only[aO,seval,abQ];rw[JK j R.st];have W:f≠l:=λe=>by subst e;rw[R.AI]at v;cases v
 generalize z:h1.put l ⟨.loop {L with state:=.busy},J⟩=d;have p:∀b,b≠l->d b=h1 b:=λb hb=>by rw[<- z,bx hb]
 have F:d l=C ⟨.loop {L with state:=.busy},J⟩:=by rw[<- z,cI]
 have G:iA d f k' [a,b] J:=by obtain⟨arr,rest,X,q2⟩:=S;exact⟨arr,rest,by rw[p _ W];exact X,q2⟩
 have ad:B d:=by rw[<- z];exact t.AI h1 l L J _ (t.le h h1 H u) j
 obtain⟨o,w⟩:=R.Lm;have af:ts≠l:=λe=>by subst e;rw[R.AI]at w;cases w
 have ag:∀(b:aS) (K:av->ae->o5->Prop),@eX pv q9 _ (dY tM tW os0 Post i) b 135 (.pointer (C ⟨ts,0,o0⟩)) s d ⟨K⟩=K s d (.func (.func fC) #[] fF):=λb K=>jK (K:=⟨K⟩) aiZ (A:=⟨ts,0,o0⟩) (by rw[p _ af];exact u _ _ w) rfl rfl;simp only[aO,seval,ab0,abZ,R.e4,aY,ag];rw[zJ (K:=⟨_⟩) t.ck];simp only[aO,seval];refine(t.call s d h f k' a b J H v ad D hb G).mono λfe h3 v3 q=> ?_;obtain⟨rfl,k,rfl⟩:=q;simp only[aO,seval,aiX,aiY,abY,abX,abW];cases hg:gf a b with
 |false=>
  simp only[aO,seval];show aH pv (Instr.endRound l o0) h3 _;rw[DS (k _ _ F)];refine⟨⟨bd+1,U,M⟩,λc x hc m=> ?_,rfl⟩;by_cases y:c=l
  .subst y;rw[j]at m;cases m;rw[cI,show({({L with state:=.busy}:Loop)with state:=.ready,pending:=o0}:Loop)=L by have h1:=R.st;have d:=R.yw;obtain⟨⟩:=L;simp_all]
  .rw[bx y];exact k _ _ (by rw[p _ y];exact m)
 |true=>simp only[aO,seval];refine ai3 (s:=fe) (g:=g) (bd:=bd) (n:=nf a b) (L:=L) D hb hm P Q M (by simp[aL,R.e5]) (by simp[aL,R.e6]) (by simp[aL,R.e7]) (by simp[aL]) (by simp[aL]) j R.st R.yw (k _ _ F) (G.le k) (λb x az m=>k _ _ (by rw[p _ az];exact m)) λN hc=> ?_;exact⟨bd,vr _,hc⟩
end
section
open Go.ConcM (OsLater muBlock)
open Go.ConcR (wgBlock WgAt stA smA)
section
variable{tM tW:ta}{os0:eI}{Post:o5->tg->Prop}{i wg:Nat}{s γ:av}{h:ae}{d:WD}{k:Nat}{aK:vH}{cs:List vH}{Q:av->ae->Goroutine->Prop}{tmps:Array o5}{todo:List Item}
def Ln{w:tg}{st jq:Int}(h:WgAt tW wg w st jq):w.cell? ⟨wg,0,o0⟩=C (.int .u64 st)/\w.frozen? ⟨wg,0,o0⟩=q9:=⟨h.cellSt,h.thaw 0⟩
def ai5:A0 1 #[⟨.cell ⟨wg,0,o0⟩,q9,J⟩]=1:=by simp[A0]
def ai6:A0 1 #[⟨.cell ⟨wg,0,o0⟩,J,J⟩]=1:=by simp[A0]
def SW:A0 1 #[⟨.cell ⟨wg,0,o0⟩,q9,J⟩,⟨.cell ⟨wg,0,o0⟩,J,J⟩]=1:=by simp[A0]
def ai7:A0 0 #[⟨.mark .disable,q9,J⟩]=1:=by simp[A0]
def ai8{a:vH×List vH}(r:j7 a.1=C (170,[.pointer (C ⟨wg,0,o0⟩),.int .u64 0]))(E:jg a.1=J)(D:kY i wg s .a2 1)
  (kk:∀s,kY i wg s .a3 1->tk tM tW os0 Post i Q s ae.empty (a.1.finish (.tuple #[]),a.2)):tk tM tW os0 Post i Q s ae.empty a:=by
 obtain⟨aK,cs⟩:=a;refine AB agG r E D ⟨Y,Y⟩ λγ w d W G l=> ?_;have c3:=Ee d av.gO;simp[av.gO]at c3;have f:=Ef W (.inl U);have k:=W.st;have m:=W.v;rw[f]at k;have t:γ.wr=1/\γ.wv=0/\γ.dB av.gO=1/\γ.ws=0/\γ.dB av.ic=0:=by rcases k with k|k<;>omega
 obtain⟨H,I,K,u,L⟩:=t;obtain⟨n,o⟩:=Ln l;have x:=tn d .a3 (wv:=0) (wr:=0) (ws:=0) (es:=#[⟨.cell ⟨wg,0,o0⟩,J,J⟩]) av.iC;have z:=tn d .a3 (wv:=0) (wr:=0) (ws:=0) (es:=#[⟨.cell ⟨wg,0,o0⟩,J,J⟩]) av.gO;have B:=tn d .a3 (wv:=0) (wr:=0) (ws:=0) (es:=#[⟨.cell ⟨wg,0,o0⟩,J,J⟩]) av.ic;simp only[av.iC,av.gO,av.ic]at x z B;have A:=au3 w (stA wg) (.int .u64 0);refine⟨.tuple #[],w.setCell (stA wg) (.int .u64 0),#[⟨.cell ⟨wg,0,o0⟩,J,J⟩],.a3,0,0,0,?_,?_,?_,⟨A.size,λb hb=>A.block b hb,?_,A.os,A.output⟩,λj e c=> ?_,⟨?_,?_⟩,Y,U,λF=>absurd f F,.inr ⟨Y,λp=>kk _ (by rw[ai6]at p;exact p)⟩⟩
 .change Sem.run pv (do store (<- auh (.pointer (C ⟨wg,0,o0⟩))) (.int .u64 0) .atomic;pure aAh) w=_;simp[auh,n,o,run_store pv w ⟨wg,0,o0⟩ (.int .u64 0) .atomic rfl,Result.andThen,stA,aAh]
 .change Sem.events pv (do store (<- auh (.pointer (C ⟨wg,0,o0⟩))) (.int .u64 0) .atomic;pure aAh) w _=_;simp[auh,n,o,events_store pv w _ ⟨wg,0,o0⟩ (.int .u64 0) .atomic rfl]
 .intro y q;simp at q;subst q;exact⟨rfl,λg h=>by cases h⟩
 .have:=l.setSt 0;rw[u]at this;exact this
 .match j,c with
  | 0,c=>simp at c;subst c;exact⟨.inr (.inr ⟨0,_,rfl⟩),.inr (by simp[A0])⟩
  |j+1,c=>simp at c
 .show 0=_+(if γ.ms=.eS J then 1 else 0);rw[f]at m ⊢;simp at m ⊢;omega
 .show(match γ.ms with|.eS _|.loop=>_|.reg=>_|.mC|.s3=>_);rw[f];right;exact⟨rfl,rfl,U,by show 0+_=1;omega⟩
def ai9{a:vH×List vH}(q:j7 a.1=C (169,[.pointer (C ⟨wg,0,o0⟩)]))(A:jg a.1=J)(D:kY i wg s .a1 1)
  (kk:∀s,kY i wg s .a2 1->tk tM tW os0 Post i Q s ae.empty (a.1.finish (.int .u64 1),a.2)):tk tM tW os0 Post i Q s ae.empty a:=by
 obtain⟨aK,cs⟩:=a;refine AB Sd q A D ⟨Y,Y⟩ λγ w k W B l=> ?_;have c3:=Ee k av.gO;simp[av.gO]at c3;have g:=Ef W (.inl U);have d:=W.st;have m:=W.v;rw[g]at d;have r:γ.wr=1/\γ.wv=0/\γ.dB av.gO=1/\γ.ws=0/\γ.dB av.ic=0:=by rcases d with d|d<;>omega
 obtain⟨n,o,E,t,F⟩:=r;obtain⟨h,G⟩:=Ln l;rw[n,o]at h;have u:=λf=>tn k .a2 (wv:=γ.wv) (wr:=γ.wr) (ws:=γ.ws) (es:=#[⟨.cell ⟨wg,0,o0⟩,q9,J⟩]) f;have x:=u av.iC;have y:=u av.gO;have z:=u av.ic;simp only[av.iC,av.gO,av.ic]at x y z;refine⟨.int .u64 1,w,#[⟨.cell ⟨wg,0,o0⟩,q9,J⟩],.a2,γ.wv,γ.wr,γ.ws,?_,?_,sync_r _,⟨rfl,λb hb=>rfl,l,rfl,rfl⟩,λj e c=> ?_,⟨?_,?_⟩,Y,U,λH=>⟨rfl,rfl⟩,.inr ⟨Y,λp=>kk _ (by rw[ai5]at p;exact p)⟩⟩
 .change Sem.run pv (do awI (.int .u64) (<- auh (.pointer (C ⟨wg,0,o0⟩)))) w=_;simp[awI,auh,h,Result.andThen]
 .change Sem.events pv (do awI (.int .u64) (<- auh (.pointer (C ⟨wg,0,o0⟩)))) w _=_;simp[awI,auh,h,events_load]
 .match j,c with
  | 0,c=>simp at c;subst c;exact⟨.inr (.inr ⟨0,_,rfl⟩),.inr (by simp[A0])⟩
  |j+1,c=>simp at c
 .show γ.wv=_+(if γ.ms=.eS J then 1 else 0);rw[g]at m ⊢;simp at m ⊢;omega
 .show(match γ.ms with|.eS _|.loop=>_|.reg=>_|.mC|.s3=>_);rw[g];left;exact⟨n,t,U,.inr ⟨o,U⟩⟩
def aja{h:vH×List vH}(I:j7 h.1=C (168,[.pointer (C ⟨wg,0,o0⟩),.int .u64 18446744069414584320]))(X:jg h.1=J)(D:kY i wg s .jv 1)
  (K:∀v r:Nat,v<=8->r<=1->¬(v=0/\r=1)->qM pv 129 400 1 (h.1.finish (.int .u64 ((4294967296*v+r:Nat):Int))) h.2=J)
  (kk:∀s,kY i wg s .a1 1->tk tM tW os0 Post i Q s ae.empty (h.1.finish (.int .u64 1),h.2)):tk tM tW os0 Post i Q s ae.empty h:=by
 obtain⟨aK,cs⟩:=h;refine AB Sc I X D ⟨Y,Y⟩ λγ w k W ad n=> ?_;have c3:=Ee k av.iC;simp[av.iC]at c3;have hb:=Ki γ (f:=av.iC) (by intro d;cases d<;>simp[av.iC]);have a:=W.st;have l:=W.v;have af:=k.dW;have ag:1<=γ.wv/\γ.wv<=9:=by split at l<;>omega
 have L:γ.wr<=1:=by
  cases c:γ.ms with
  |reg=>rw[c]at a;rcases a with a|a<;>omega
  |eS p=>rw[c]at a;simp at a;omega
  |loop=>rw[c]at a;simp at a;omega
  |mC=>rw[c]at a;simp at a;omega
  |s3=>rw[c]at a;simp at a;omega
 obtain⟨y,z⟩:=Ln n;have M:IntKind.u64.wrap (((4294967296*γ.wv+γ.wr:Nat):Int)+18446744069414584320)=((4294967296*(γ.wv- 1)+γ.wr:Nat):Int):=by simp only[IntKind.wrap,IntKind.bits,IntKind.signed,Bool.false_and];simp;omega
 have A:=au3 w (stA wg) (.int .u64 ((4294967296*(γ.wv- 1)+γ.wr:Nat):Int));have o:((axZ (Op.intArith .add) .u64 J) [Value.pointer (C ⟨wg,0,o0⟩),.int .u64 18446744069414584320].toArray).run pv w=.ok (.int .u64 ((4294967296*(γ.wv- 1)+γ.wr:Nat):Int)) (w.setCell ⟨wg,0,o0⟩ (.int .u64 ((4294967296*(γ.wv- 1)+γ.wr:Nat):Int))):=by rw[<- M];exact run_add_entry y z
 have B:((axZ (Op.intArith .add) .u64 J) [Value.pointer (C ⟨wg,0,o0⟩),.int .u64 18446744069414584320].toArray).events pv w #[⟨.mark (.extern 168),q9,J⟩]=#[⟨.mark (.extern 168),q9,J⟩]++#[⟨.cell ⟨wg,0,o0⟩,q9,J⟩,⟨.cell ⟨wg,0,o0⟩,J,J⟩]:=by exact(events_add_entry y z _).trans rfl
 have E:∀j e,(#[⟨.cell ⟨wg,0,o0⟩,q9,J⟩,⟨.cell ⟨wg,0,o0⟩,J,J⟩]:Array Event)[j]? =C e->Sf wg e/\((MemAct.ofEvent e).touch? =o0\/0<A0 1 ((#[⟨.cell ⟨wg,0,o0⟩,q9,J⟩,⟨.cell ⟨wg,0,o0⟩,J,J⟩]:Array Event).extract 0 j)):=λj e g=>by
  match j,g with
  | 0,g=>simp at g;subst g;exact⟨.inr (.inr ⟨0,_,rfl⟩),.inr (by simp[A0])⟩
  | 1,g=>simp at g;subst g;exact⟨.inr (.inr ⟨0,_,rfl⟩),.inr (by simp[A0])⟩
  |j+2,g=>simp at g
 by_cases N:γ.wv=1/\γ.wr=1
 .obtain⟨ab,F⟩:=N;have m:=Ef W (.inr (.inr F));rw[m]at a;have P:γ.ws=0/\γ.dB av.ic=0/\γ.dB av.gO=0:=by rcases a with a|a<;>omega
  obtain⟨R,q5,q6⟩:=P;have u:=λf=>tn k .a1 (wv:=0) (wr:=1) (ws:=γ.ws) (es:=#[⟨.cell ⟨wg,0,o0⟩,q9,J⟩,⟨.cell ⟨wg,0,o0⟩,J,J⟩]) f;have q:=u av.iC;have t:=u av.gO;have x:=u av.ic;simp only[av.iC,av.gO,av.ic]at q t x;rw[ab,F]at o;refine⟨.int .u64 1,_,_,.a1,0,1,γ.ws,o,B,sync_rw _,⟨(au3 w (stA wg) _).size,λb hb=>(au3 w (stA wg) _).block b hb,n.setSt _,(au3 w (stA wg) _).os,(au3 w (stA wg) _).output⟩,E,⟨?_,?_⟩,Y,U,λH=>absurd m H,.inr ⟨Y,λG=>kk _ (by rw[SW]at G;exact G)⟩⟩
  .show 0=_+(if γ.ms=.eS J then 1 else 0);rw[m]at l ⊢;simp at l ⊢;omega
  .show(match γ.ms with|.eS _|.loop=>_|.reg=>_|.mC|.s3=>_);rw[m];left;exact⟨rfl,R,U,.inr ⟨rfl,U⟩⟩
 .have u:=λf=>tn k .eO (wv:=γ.wv- 1) (wr:=γ.wr) (ws:=γ.ws) (es:=#[⟨.cell ⟨wg,0,o0⟩,q9,J⟩,⟨.cell ⟨wg,0,o0⟩,J,J⟩]) f;have q:=u av.iC;have t:=u av.gO;have x:=u av.ic;simp only[av.iC,av.gO,av.ic]at q t x;refine⟨_,_,_,.eO,γ.wv- 1,γ.wr,γ.ws,o,B,sync_rw _,⟨A.size,λb hb=>A.block b hb,n.setSt _,A.os,A.output⟩,E,⟨?_,?_⟩,Y,U,λH=>⟨rfl,rfl⟩,.inl ⟨rfl,400,?_⟩⟩
  .show γ.wv- 1=_+(if γ.ms=.eS J then 1 else 0);split at l<;>rename_i S<;>simp only[S]<;>simp<;>omega
  .show(match γ.ms with|.eS _|.loop=>_|.reg=>_|.mC|.s3=>_);cases c:γ.ms with
   |reg=>rw[c]at a;left;rcases a with a|a<;>exact⟨(U:γ.wr=1),(U:γ.ws=0),U,.inl ⟨(U:0<γ.wv- 1),U⟩⟩
   |eS p=>rw[c]at a;simp only at a ⊢;exact⟨(U:γ.wr=0),(U:γ.ws=0),U,U⟩
   |loop=>rw[c]at a;simp only at a ⊢;exact⟨(U:γ.wr=0),(U:γ.ws=0),U,U⟩
   |mC=>rw[c]at a;simp only at a;omega
   |s3=>rw[c]at a;simp only at a;omega
  .rw[SW];exact Se (K (γ.wv- 1) γ.wr U L U)
def ajb{bd:Nat}{aP:av}{g:List cV}{e0 e1 e2 e3 e4 e5 e6 e7:vH×List vH}
  (B:Ed e0.1=C (252,170,.pointer (C ⟨wg,0,o0⟩))/\jg e0.1=J) (D:j7 e1.1=C (127,[.pointer (C ⟨wg,0,o0⟩)])/\jg e1.1=J)
  (E:j7 e2.1=C (128,[])/\jg e2.1=J) (F:j7 e3.1=C (130,[])/\jg e3.1=J)
  (G:j7 e4.1=C (168,[.pointer (C ⟨wg,0,o0⟩),.int .u64 18446744069414584320])/\jg e4.1=J) (H:j7 e5.1=C (169,[.pointer (C ⟨wg,0,o0⟩)])/\jg e5.1=J)
  (I:j7 e6.1=C (170,[.pointer (C ⟨wg,0,o0⟩),.int .u64 0])/\jg e6.1=J) (K:j7 e7.1=C (139,[.pointer (C ⟨wg,1,o0⟩),.bool q9,.int .i64 0])/\jg e7.1=J)
  (L:∀v r:Nat,v<=8->r<=1->¬(v=0/\r=1)->qM pv 129 400 1 (e4.1.finish (.int .u64 ((4294967296*v+r:Nat):Int))) e4.2=J) (M:qM pv 129 400 1 (e7.1.finish (.tuple #[])) e7.2=J)
  (N:e1=an e0 (.pointer (C ⟨wg,0,o0⟩))) (P:e2=an e1 (.tuple #[])) (S:e3=an e2 (.tuple #[])) (X:e4=an e3 (.bool q9)) (N4:e5=an e4 (.int .u64 1)) (N5:e6=an e5 (.int .u64 1)) (N6:e7=an e6 (.tuple #[])) (c:dI i aP s .out 0 bd q9 g) (hg:g=s.full i) (o:s.wg=wg) (h8:s.cap<=s.n0+8):tk tM tW os0 Post i Q s h e0:=by
 obtain⟨t0,az⟩:=B;obtain⟨bZ,a6⟩:=D;obtain⟨cU,a7⟩:=E;obtain⟨jA,a8⟩:=F;obtain⟨fK,ba⟩:=G;obtain⟨ie,bb⟩:=H;obtain⟨t6,bh⟩:=I;obtain⟨t7,bk⟩:=K;refine agJ c.w.aG t0 az Ke yn Kg (λγ n hs w t r l=> ?_) λγ r=> ?_
 .have A:=l.jf (r.on.trans c.w.on);rw[r.wg,o]at A;exact⟨_,(show WgAt tW wg w _ _ from A).cellSt⟩
 refine wm (st:=e0) (v:=.pointer (C ⟨wg,0,o0⟩)) ?_;rw[<- N];refine Sa Re bZ a6 λa n hs w t hr l hi ca d=> ?_;have bm:i<γ.aG:=auj c.w.aG r.aG;have R:=r.trans (hr.s bm ca);have p:=R.on.trans c.w.on;have q:a.wg=wg:=R.wg.trans o;have u:a.n0<=i:=by rw[R.n0];exact c.w.n0
 have bn:a.wd i=.wk:=R.wd.trans c.w.wk;have x:a.bC i=0:=R.bC.trans c.bC;have z:=l.agd c.w.pos hi p u bn (R.md.trans c.md) (by rw[R.cN,c.cN,hg,R.full]) x e1.1.fn e1.1.place;rw[q]at z;refine⟨.tuple #[],w,#[⟨.mark (.releaseMerge ⟨wg,0,o0⟩),q9,J⟩],a.fT i .jv a.wv a.wr a.ws #[],ae.empty,by simp[auB,avS,auA],by simp[auB,avS],?_,z,RS (vr _) (λ_=>⟨rfl,rfl⟩),λ_=>RU (.inl rfl),.inr ⟨?_,?_⟩⟩
 .intro y k;simp at k;subst k;exact⟨rfl,λg h=>by cases h⟩
 .intro bp;have:=bp.2;rw[show(a.fT i .jv a.wv a.wr a.ws #[]).wd i=.jv from atY _ _ _]at this;cases this
 have D0:kY i wg (a.fT i .jv a.wv a.wr a.ws #[]) .jv 0:=⟨c.w.pos,p,u,auj c.w.aG R.aG,atY _ _ _,by show Go.ConcN.upd a.bC i (A0 (a.bC i) #[]) i=_;rw[atY,x];rfl,q,by show a.cap<=a.n0+8;rw[R.cap,R.n0];exact h8⟩
 generalize a.fT i .jv a.wv a.wr a.ws #[]=s2 at D0;refine wm (st:=e1) (v:=.tuple #[]) ?_;rw[<- P];refine AB rO cU a7 D0 ⟨Y,Y⟩ λγ w D2 W cb bt=> ?_;refine⟨.tuple #[],w,#[⟨.mark .disable,q9,J⟩],.jv,γ.wv,γ.wr,γ.ws,by simp[auA],Y,?_,⟨rfl,λb hb=>rfl,bt,rfl,rfl⟩,λj e d=> ?_,agK W rfl rfl rfl rfl (λf=>agL D2 f),Y,vr _,λ_=>⟨rfl,rfl⟩,.inr ⟨Y,λm=> ?_⟩⟩
 .intro y k;simp at k;subst k;exact⟨rfl,λg h=>by cases h⟩
 .match j,d with
  | 0,d=>simp at d;subst d;exact⟨.inl rfl,.inl rfl⟩
  |j+1,d=>simp at d
 rw[ai7]at m;generalize γ.fT i .jv γ.wv γ.wr γ.ws #[⟨.mark .disable,q9,J⟩]=fe at m;refine wm (st:=e2) (v:=.tuple #[]) ?_;rw[<- S];refine dv.iG rfl (λw=>(R7 (main:=q9) (w:=w) (w':=w) (v:=.bool q9) (evs:=#[]) yr jA a8 rfl Y Y).1) ?_;refine wm (st:=e3) (v:=.bool q9) ?_;rw[<- X];refine aja fK ba m L λs4 D4=> ?_;refine wm (st:=e4) (v:=.int .u64 1) ?_;rw[<- N4];refine ai9 ie bb D4 λgA D5=> ?_;refine wm (st:=e5) (v:=.int .u64 1) ?_;rw[<- N5];refine ai8 t6 bh D5 λs6 D6=> ?_;refine wm (st:=e6) (v:=.tuple #[]) ?_;rw[<- N6];exact agM t7 bk M D6
def ajc{bd:Nat}{aP:av}{g:List cV}(f:dI i aP s .out 0 bd q9 g)(a:g=s.full i)(b:s.wg=wg)(j:s.cap<=s.n0+8):dv pv q9 ((fD pv tM tW os0 Post).im i) Q s h (B5 (Eb wg) [Ec tmps todo,tj]):=by
 have key:=ajb (tM:=tM) (tW:=tW) (os0:=os0) (Post:=Post) (Q:=Q) (h:=h) (e0:=iK wg tmps todo) (e1:=dH wg tmps todo) (e2:=d2 wg tmps todo) (e3:=js wg tmps todo) (e4:=jJ wg tmps todo) (e5:=m6 wg tmps todo) (e6:=ox wg tmps todo) (e7:=nH wg tmps todo)
  ⟨(Sb wg tmps todo).1,(Sb wg tmps todo).2.1⟩ (agf wg tmps todo) (agh wg tmps todo) (agi wg tmps todo) (agj wg tmps todo) (agk wg tmps todo) (agl wg tmps todo) (agm wg tmps todo)
  (λv r c d e=>agF wg tmps todo c d e) (agE wg tmps todo) (by rw[dH]) (by rw[d2]) (by rw[js]) (by rw[jJ]) (by rw[m6]) (by rw[ox]) (by rw[nH]) f a b j
 have e0:iK wg tmps todo=wi pv 200 (Eb wg) [Ec tmps todo,tj]:=by rw[iK]
 refine JH 200 ?_;rw[<- e0];exact key
end
end
section
variable{P:tb}{main:Bool}{ai:Type}{S:Sys ai}{s:ai}{h:ae}{b:aS}
def SX{fnn:vb}{tmps:Array o5}{todo:List Item}{f:vb}{c args:Array o5}{ds:List tc}{md:FrameMode}{kind:CallKind}{ro:Option Nat}{cs:List vH}{w:tg}(ck:bz P f=J)(g:md=.returning\/∃a,md=.panicking a):vx P main (G ⟨fnn,tmps,todo,{target:=.fn (.func f) c,args:=args}::ds,md,kind,ro⟩ cs) w=.go (G (aue P f (args++c) .deferred) (⟨fnn,tmps,todo,ds,md,kind,ro⟩::cs)) w #[]:=by
 have b:=rP (Rt (x:=args) (y:=c) (args:=#[]) ck) w #[];have e:(do let d <- Deferred.ofValue (.func (.func f) args c) #[];invoke d.target d.args:Sem Next)=invoke (.fn (.func f) c) args:=by simp only[Deferred.ofValue,axE];rfl
 rw[rD,e,axE]at b;rcases g with rfl|⟨a,rfl⟩<;>simp[-Sem.runT_eq,G,vx,unwind,callDeferred,b,GStep.after,seen_none]
def Ez{r:Nat}{K:List tc->ae->Prop}(a:h r=C ⟨.deferred (C []),J⟩)(k:∀h',(∀b x,b≠r->h b=C x->h' b=C x)->K [] h'):aH P (ayx r) h K:=by
 have e:∀Q:Obj->ae->Prop,aH P (awa r) h Q=match h r with
  |some x=>ae.mn x.obj=J/\x.obj.isChan=q9/\aH P (pure x.obj:Sem Obj) h Q
  |none=>False:=λQ=>by unfold awa;rw[aH];rfl
 have c:∀Q:Unit->ae->Prop,aH P (avx r (.deferred o0)) h Q=match h r with
  |some x=>ae.mn x.obj=J/\(Obj.deferred o0).isChan=q9/\x.own=J/\aH P (pure ():Sem Unit) (h.put r ⟨.deferred o0,J⟩) Q
  |none=>False:=λQ=>by unfold avx;rw[aH];rfl
 simp only[ayx,aJ,e,a,ae.mn,Obj.isChan,aR,true_and,c];exact k _ λb x hb d=>by rw[bx hb];exact d
def SY{t:ta}{b0:Nat}{v0 v1 v2 v3:o5}{ty:ta}{aK:Nat×Nat}{own:Bool}(a:fS P t=C (C 4))(hb:h b0=C ⟨.cells #[v0,v1,v2,v3] ty aK,own⟩)[K:hA ai]:eX P main S b t (.pointer (C ⟨b0,0,o0⟩)) s h=K.f s h (.agg #[v0,v1,v2,v3]):=by
 have c:h.cell? ⟨b0,0,o0⟩=C v0:=by simp[ae.cell?,hb]
 have c1:h.cell? ⟨b0,1,o0⟩=C v1:=by simp[ae.cell?,hb]
 have c2:h.cell? ⟨b0,2,o0⟩=C v2:=by simp[ae.cell?,hb]
 have c3:h.cell? ⟨b0,3,o0⟩=C v3:=by simp[ae.cell?,hb]
 rw[ua (K:=K) (A:=⟨b0,0,o0⟩) hb,zO (K:=⟨λv h=>K.f s h v⟩) a,pG,pG,pG,pG,zQ];simp only[Nat.add_zero,Nat.zero_add,Nat.reduceAdd,c,c1,c2,c3,Cg];rfl
def ajd{n:Nat}{e:Env}(h:∀t,n<=t->e t=vk):iR n ⟨Array.ofFn (n:=n) λi=>e i,[]⟩ e:=by
 refine⟨Y,λt=> ?_⟩;rw[auZ];by_cases a:t<n
 .rw[Array.getElem?_eq_getElem (by simpa using a)];simp
 .rw[Array.getElem?_eq_none (by simpa using a),h t U];rfl
end
def SZ:fS pv 119=C (C 4):=O
def aje:bz pv 97=J:=O
def ajf:bz pv 98=J:=O
def pM.mono{main:Bool}{ai:Type}{Sy:Sys ai}{l:Nat}{a b:bX}{s:ai}{h:ae}{Zz c:ai->Prop}(d:∀s,Zz s->c s)(n:pM main Sy l a b s h Zz):pM main Sy l a b s h c:=λh1 e k' f g i=>by obtain⟨L,o,q,j,k,m⟩:=n h1 e k' f g i;exact⟨L,o,q,j,k,m.mono λu h' v ⟨p,r,t⟩=>⟨d _ p,r,t⟩⟩
def jB(bS:Int)(nf:bX->bX->Int)(gf:bX->bX->Bool)(x:bX):Nat->List cV
 | 0=>[]
 |n+1=>if gr 0 [x,hY n]<=bS then(if gf x (hY n)then jB bS nf gf x n++[(nf x (hY n),[x,hY n])]else jB bS nf gf x n)else jB bS nf gf x n
structure S0(h:ae)(j6 gc lO mg:Nat)(x:bX)(bS:Int)(fC:vb)(fF:Array o5):Prop where
 mG:∃o a m b n i j,h j6=C ⟨.cells #[.slice a 2 m,.slice b 2 n,.int .i64 i,.int .i64 j] 119 (0,0),o⟩
 ajg:∃o aB p,h gc=C ⟨.cells #[.slice (C ⟨p,0,o0⟩) 1 1] 58 (0,0),o⟩/\pN h p x aB
 im:∃o,h lO=C ⟨.cells #[.int .i64 bS] 3 (0,0),o⟩
 Lm:∃o,h mg=C ⟨.cells #[.func (.func fC) #[] fF] 135 (0,0),o⟩
section
variable{tM tW:ta}{os0:eI}{Post:o5->tg->Prop}{i:Nat}{s:av}{h:ae}{bB wg fb bb j6 gc lO mg:Nat}{fC:vb}{fF:Array o5}{nf:bX->bX->Int}{gf:bX->bX->Bool}{B:ae->Prop}{x:bX}{bS:Int}
def qP(wg j6 gc lO mg bB fb bb:Nat):Array o5:=#[aY wg,aY j6,aY gc,aY lO,aY mg,aY bB,aY fb,aY bb]
def ajh(i:Nat)(aP:av)(wg:Nat):eM->Env->List tc->av->ae->Prop:=λx=>match x with
 | .ext _=>λ_ _ _ _=>False
 |_=>λe d s h=>∃r bd,d=[{target:=.collected r,args:=#[]},{target:=.fn (.func 98) #[],args:=#[aY wg]}]/\h r=C ⟨.deferred (C []),J⟩/\dI i aP s .out 0 bd q9 (aP.full i)
def aji(N:x∈dm)(g:uH q9 (dY tM tW os0 Post i) B fC fF nf gf)(cb:B h)(hm:s.mu=bB)(R:s.I=pK s.n0 fb bb)(S:fb≠bb)(X:gr 0 [x]<=bS)(ab:s.full i=jB bS nf gf x 8)
  (W:S0 h j6 gc lO mg x bS fC fF) (ck:dI i s s .out 0 8 q9 []):
  cB pv q9 (dY tM tW os0 Post i) 38 ⟨97,.deferred,o0⟩ xX (ajh i s wg) (dC [aY wg,aY j6,aY gc,aY lO,aY mg,aY bB,aY fb,aY bb]) [] s h:=by
 obtain⟨ep,a0,m0,b0,n0,i0,j0,hb⟩:=W.mG;obtain⟨og,os,p,hg,ag⟩:=W.ajg;obtain⟨ed,hs⟩:=W.im;obtain⟨oo,ho⟩:=W.Lm;have lb:∀(b:aS) (K:av->ae->o5->Prop),@eX pv q9 _ (dY tM tW os0 Post i) b 119 (.pointer (C ⟨j6,0,o0⟩)) s h ⟨K⟩=K s h (.agg #[.slice a0 2 m0,.slice b0 2 n0,.int .i64 i0,.int .i64 j0]):=λb K=>SY (K:=⟨K⟩) SZ hb;have kV:∀(b:aS) (K:av->ae->o5->Prop),@eX pv q9 _ (dY tM tW os0 Post i) b 58 (.pointer (C ⟨gc,0,o0⟩)) s h ⟨K⟩=K s h (.slice (C ⟨p,0,o0⟩) 1 1):=λb K=>jK (K:=⟨K⟩) Au (A:=⟨gc,0,o0⟩) hg rfl rfl;have ls:∀(b:aS) (K:av->ae->o5->Prop),@eX pv q9 _ (dY tM tW os0 Post i) b 3 (.pointer (C ⟨lO,0,o0⟩)) s h ⟨K⟩=K s h (.int .i64 bS):=λb K=>jK (K:=⟨K⟩) wh (A:=⟨lO,0,o0⟩) hs rfl rfl;simp only[aO,vk,seval,ab4,ab3,Om,aY,lb,kV,ls];refine .inl ⟨af4,(af5 rfl).mono λP h1 v1 q=> ?_⟩;obtain⟨rfl,w,ap,bp,gp,rfl,ba,bh,bk⟩:=q;simp only[aO,vk,seval,ab2,ab1,Kc];refine Rv (x:=#[]) (y:=#[aY ap,aY bp,aY gp]) af2 rfl Y (by simp[aL,aA]) ?_;refine JM λr hr l j hl=> ?_;generalize a:({state:=.ready,pending:=o0,fn:=97,tmps:=_,params:=#[16],assign:=Ag,body:=xY,defers:=r}:Loop)=L;have D:L.state=.ready:=by rw[<- a]
 have E:L.pending=o0:=by rw[<- a]
 have L3:L.fn=97:=by rw[<- a]
 have L4:L.params=#[16]:=by rw[<- a]
 have L5:L.assign=Ag:=by rw[<- a]
 have L6:L.body=xY:=by rw[<- a]
 generalize d:(upd _ 15 _:Env)=e at a ⊢;have eu:∀t,38<=t->e t=vk:=λt ht=>by rw[<- d];simp only[aL,dC];rw[if_neg U,if_neg U,if_neg U,if_neg U];obtain⟨m,rfl⟩:∃m,t=m+8:=⟨t- 8,U⟩;rfl
 have e4:e 4=aY mg:=by rw[<- d];simp[aL,dC];rfl
 have e5:e 5=aY bB:=by rw[<- d];simp[aL,dC];rfl
 have e6:e 6=aY fb:=by rw[<- d];simp[aL,dC];rfl
 have e7:e 7=aY bb:=by rw[<- d];simp[aL,dC];rfl
 have L7:iR 38 ⟨L.tmps,[]⟩ e:=by rw[<- a];exact ajd eu
 clear a d;have f:h1.ar ((h1.put r ⟨.deferred (C []),J⟩).put l ⟨.loop L,J⟩):=le_trans (gW hr) (gW (by rw[bx j];exact hl));generalize F:(h1.put r ⟨.deferred (C []),J⟩).put l ⟨.loop L,J⟩=h2 at f ⊢;have Q:h2 l=C ⟨.loop L,J⟩:=by rw[<- F,cI]
 have dS:h2 r=C ⟨.deferred (C []),J⟩:=by rw[<- F,bx (Ne.symm j),cI]
 have B2:B h2:=g.le _ _ (g.le _ _ cb w) f;have G:=le_trans w f;refine bo.mono (λu h' v q=> ?_) (af3 (main:=q9) (Sy:=dY tM tW os0 Post i) (s:=P) (h:=h2) (l:=l) (bS:=bS) (o:=os) (x:=x) (p:=p) (λn u=>∃bd,8- n<=bd/\dI i P u .out 0 bd q9 (jB bS nf gf x n)) N ⟨_,f _ _ ba⟩ ⟨_,_,_,_,_,_,f _ _ bh,rfl,rfl⟩ ⟨_,f _ _ bk⟩ (G _ _ ag) X ⟨8,U,ck⟩ λn hn s2 h3 k z=> ?_)
 .obtain⟨⟨bd,_,ea⟩,H⟩:=q;rw[JL (H _ _ Q) D];refine⟨E,?_⟩;simp only[aO,seval];exact⟨r,bd,rfl,by rw[bx (Ne.symm j)];exact H _ _ dS,by rw[ab];exact ea⟩
 .obtain⟨bd,eg,c⟩:=z;refine⟨λek=>⟨bd,U,?_⟩,λeb=> ?_⟩
  .have e:jB bS nf gf x (n+1)=jB bS nf gf x n:=by rw[jB,if_neg U]
   rw[e];exact c
  .have en:jB bS nf gf x (n+1)=if gf x (hY n)then jB bS nf gf x n++[(nf x (hY n),[x,hY n])]else jB bS nf gf x n:=by rw[jB,if_pos eb]
   obtain⟨M,rfl⟩:∃M,bd=M+1:=⟨bd- 1,U⟩;refine(ai4 (L:=L) (e0:=e) N (JS hn) ⟨k _ _ Q,D,E,L3,L4,L5,L6,L7,e4,e5,e6,e7,oo,k _ _ (G _ _ ho)⟩ g (g.le _ _ B2 k) hm R S c).mono λu ⟨ca,eo,c2⟩=>⟨ca,U,by rw[en];exact c2⟩
end
noncomputable def Lo:rj:=ax1.body.getD .skip
def ajj:rj:=bf Lo
def Ta:rj:=bf ajj
def AJ:rj:=bf Ta
def EA:rj:=bf AJ
def Tb:rj:=bf EA
def ajk:=aF Tb (.seq (.region _ [_,_,_,_,_,_].toArray _) .ret) rfl
def Lp:rj:=bH EA
def Lq:rj:=bf Lp
def EB:rj:=bH Lq
def EC:rj:=bH EB
def ajl:=aF EC (.region _ [_].toArray _) rfl
def AK:rj:=bf EB
def Tc:rj:=bH AK
def yx:List sa:=[⟨C 34,.load 3 (.tmp 10),3, "ground.go:180",#[],o0⟩,⟨C 35,.fieldAddr 137 (.tmp 2) 0,0, "ground.go:180",#[],o0⟩,⟨C 36,.fieldAddr 29 (.tmp 35) 0,0, "ground.go:180",#[⟨1,.data⟩],o0⟩,⟨C 37,.load 26 (.tmp 36),26, "ground.go:180",#[⟨2,.data⟩],o0⟩,⟨C 38,.move (.tmp 11),3, "ground.go:180",#[],o0⟩,⟨C 39,.indexAddr 26 (.tmp 37) (.tmp 38),0, "ground.go:180",#[⟨3,.data⟩,⟨4,.data⟩],o0⟩,⟨C 40,.fieldAddr 51 (.tmp 39) 3,0, "ground.go:180",#[⟨5,.data⟩],o0⟩,⟨C 41,.load 3 (.tmp 40),3, "ground.go:180",#[⟨6,.data⟩],o0⟩,⟨C 42,.binOp .add 3 (.tmp 34) (.tmp 41) 3,3, "ground.go:180",#[⟨0,.data⟩,⟨7,.data⟩],o0⟩,⟨o0,.store 3 (.tmp 10) (.tmp 42),0, "ground.go:180",#[⟨8,.data⟩,⟨0,.phase⟩,⟨1,.phase⟩,⟨2,.phase⟩,⟨3,.phase⟩,⟨4,.phase⟩,⟨5,.phase⟩,⟨6,.phase⟩,⟨7,.phase⟩,⟨8,.phase⟩],o0⟩]
def ajm:=aF Tc (.region _ (axT yx) _) rfl
def ajn:=aF AK (.block _ Tc) rfl
def ajo:=aF EB (.rangeFunc _ _ EC AK) rfl
def ajp:=aF Lq (.block _ EB) rfl
def ajq:=aF Lp (.seq (.region _ [_,_].toArray _) Lq) rfl
def ajr:=aF EA (.seq Lp Tb) rfl
def ajs:=aF AJ (.seq (.region _ [_,_].toArray _) EA) rfl
def ajt:rj:=bH Ta
def aju:List sa:=[⟨C 12,.makeMap 218 o0,218, "ground.go:172",#[],o0⟩,⟨C 5,.assign (.tmp 12),218, "ground.go:172",#[⟨0,.data⟩,⟨0,.phase⟩],o0⟩]
def ajv:List sa:=[⟨C 2,.box 137 (.tmp 0),0, "ground.go:171",#[],o0⟩,⟨C 4,.assign (.const (.int .i64 0)),3, "ground.go:171",#[],o0⟩]
def ajw:ax1.body=C Lo:=O
def ajx:fN 48 Lo=J:=O
noncomputable def ED:rj:=Tryz.f153.body.getD .skip
def Lr:rj:=bf ED
def Ls:rj:=bH Lr
def Lt:rj:=bH Ls
def EE:rj:=bf Lt
def Lu:rj:=bf EE
def Lv:rj:=bH Lu
def Lw:rj:=bf Lv
def Td:rj:=bf Lw
def ajy:=aF Td (.cond _ .ret .skip) rfl
def ajz:=aF Lw (.seq (.region _ [_,_,_,_].toArray _) Td) rfl
def ajA:=aF Lv (.seq (.region _ [_,_,_].toArray _) Lw) rfl
def ajB:=aF Lu (.block _ Lv) rfl
def Te:rj:=bH EE
def Tf:=aF Te (.cond _ .skip (.exit 0)) rfl
def Tg:=aF EE (.seq Te Lu) rfl
def ajC:=aF Lt (.seq (.region _ [_,_].toArray _) EE) rfl
def ajD:=aF Ls (.loop Lt) rfl
def ajE:=aF Lr (.block _ Ls) rfl
def ajF:=aF ED (.seq (.region _ [_,_].toArray _) Lr) rfl
def ajG:Tryz.f153.body=C ED:=O
def ajH:fN 14 ED=J:=O
noncomputable def EF:rj:=Tryz.f106.body.getD .skip
def Ti:rj:=bf EF
def ajI:=aF Ti (.seq (.region _ [_,_].toArray _) .ret) rfl
def ajJ:=aF EF (.seq (.region _ [_,_].toArray _) Ti) rfl
def ajK:Tryz.f106.body=C EF:=O
def ajL:fN 4 EF=J:=O
section
variable{P:tb}{h:ae}
def AL{l:Nat}{x:Obj}{o:Bool}{K:Obj->ae->Prop}(a:h l=C ⟨x,o⟩)(h1:ae.mn x=J)(b:x.isChan=q9):aH P (awa l) h K=K x h:=by
 have e:∀Q:Obj->ae->Prop,aH P (awa l) h Q=match h l with
  |some x=>ae.mn x.obj=J/\x.obj.isChan=q9/\aH P (pure x.obj:Sem Obj) h Q
  |none=>False:=λQ=>by unfold awa;rw[aH];rfl
 rw[e,a];simp[h1,b,aR]
def ajM{l:Nat}{x y:Obj}{K:Unit->ae->Prop}(a:h l=C ⟨x,J⟩)(h1:ae.mn x=J)(b:y.isChan=q9):aH P (avx l y) h K=K () (h.put l ⟨y,J⟩):=by
 have e:aH P (avx l y) h K=match h l with
  |some x=>ae.mn x.obj=J/\y.isChan=q9/\x.own=J/\aH P (pure ():Sem Unit) (h.put l ⟨y,J⟩) K
  |none=>False:=by unfold avx;rw[aH];rfl
 rw[e,a];simp[h1,b,aR]
def ajN{t k e m:Nat}{es:Array HP}{ck:Nat}{o:Bool}[K:KK o5](a:P.underlying t=C (.map k e))(b:h m=C ⟨.map es ck,o⟩)
  (u:∀it,h it=o0->K.f (.pointer (C ⟨it,0,o0⟩)) (h.put it ⟨.mapIter (C m) ck #[] ck,J⟩)):al P (ayy t (.map (C m))) h:=by
 simp only[al,ayy,aJ,c0,a,AL b rfl rfl,aR,qo];exact u
def iE(es:Array HP)(seen:Array Nat):Array HP:=es.filter λe=> !seen.contains e.born
def ajO{it m ck:Nat}{es:Array HP}{seen:Array Nat}{o:Bool}{ty:ta}{K:o5->ae->Prop}(hi:h it=C ⟨.mapIter (C m) ck seen ck,J⟩)(j:h m=C ⟨.map es ck,o⟩)(hb:∀e∈es,e.born<ck)
  (k:iE es seen=#[]->K (.tuple #[.bool q9]) h) (d:∀e∈iE es seen,K (.tuple #[.bool J,e.key,e.val]) (h.put it ⟨.mapIter (C m) ck (seen.push e.born) ck,J⟩)):aH P (ayz (.pointer (C ⟨it,0,o0⟩)) q9 ty) h K:=by
 simp only[ayz,aJ,AL hi rfl rfl,AL j rfl rfl];have l:(!seen.isEmpty&& !es.isEmpty&&es.all (λx:HP=>decide (x.born>=ck)))=q9:=by
  cases a:es.isEmpty with
  |true=>simp
  |false=>
   have hs:0<es.size:=aBS λe0=>by rw[aBT.1 e0]at a;cases a
   have:es.all (λx:HP=>decide (x.born>=ck))=q9:=by rw[Array.all_eq_false];exact⟨0,hs,by simp;exact hb _ (aBU hs)⟩
   rw[this];simp
 rw[l];simp only[N2,if_false];have n:(iE es seen).filter (λx:HP=>decide (x.born<ck))=iE es seen:=by rw[Array.filter_eq_self];intro e a;have:=(ax2.1 a).1;simpa using hb e this
 have p:(iE es seen).filter (λx:HP=>decide (x.born>=ck))=#[]:=by rw[Array.filter_eq_empty_iff];intro e a;have:=(ax2.1 a).1;have:=hb e this;simp;omega
 have q:es.filter (λe:HP=> !seen.contains e.born)=iE es seen:=rfl;simp only[aJ];rw[q];rw[n,p,axE];rw[xc];by_cases b:iE es seen=#[]
 .rw[b];have:(Question.mapNext ((if(#[]:Array HP).isEmpty=J then #[o0]else #[])++axy C (#[]:Array HP)).size).forced=J:=by simp[Question.forced]
  rw[if_pos this];have h0:((if(#[]:Array HP).isEmpty=J then(#[o0]:Array (Option HP))else #[])++axy C (#[]:Array HP))[0]? =C o0:=Y
  rw[h0];simp only[aR];exact k b
 .have a:(iE es seen).isEmpty=q9:=by
   cases f:(iE es seen).isEmpty with
   |false=>rfl
   |true=>exact absurd (Array.isEmpty_iff.1 f) b
  rw[a];simp only[N2,if_false,axc,Array.size_map];have hs:0<(iE es seen).size:=aBS λe0=>b (aBT.1 e0);have key:∀i,i<(iE es seen).size->aH P (match(axy C (iE es seen))[i]? with
    |some (C e)=>do
     avx it (.mapIter (C m) ck (seen.push e.born) ck)
     pure (.tuple #[.bool J,e.key,e.val])
    |some o0=>pure (.tuple #[.bool q9])
    |none=>stuck "Next: no such candidate" :Sem o5) h K:=λi c=>by
   have g:(axy C (iE es seen))[i]? =C (C (iE es seen)[i]):=by simp[c]
   rw[g];simp only[aJ];rw[ajM (y:=.mapIter (C m) ck (seen.push (iE es seen)[i].born) ck) hi rfl rfl];simp only[aR];exact d _ (aBU c)
  split
  .exact key 0 hs
  .intro t;exact key _ (Nat.mod_lt _ hs)
def ajP{it m ck:Nat}{es:Array HP}{seen:Array Nat}{o o2:Bool}{e:HP}{K:o5->ae->Prop}(hi:h it=C ⟨.mapIter (C m) ck (seen.push e.born) ck,o2⟩)(f:h m=C ⟨.map es ck,o⟩)(d:e∈es)
  (g:∀a∈es,∀b∈es,a.born=b.born->a=b) (u:K (.tuple #[e.key,e.val]) h):aH P (aAi (.pointer (C ⟨it,0,o0⟩))) h K:=by
 simp only[aAi,aJ,AL hi rfl rfl,Array.back?_push,AL f rfl rfl,bne_self_eq_false,N2,if_false];have:es.find? (λx=>x.born==e.born)=C e:=by
  cases c:es.find? (λx=>x.born==e.born)with
  |none=>have:=Array.find?_eq_none.1 c e d;simp at this
  |some y=>have h1:=Array.mem_of_find?_eq_some c;have i:=Array.find?_some c;rw[g y h1 e d (by simpa using i)]
 rw[this];exact u
end
def jM(f:HP->Int)(l:List HP):Int:=(l.map f).sum
def Tj{f:HP->Int}{p:Nat->Bool}:∀{l:List HP} {e:HP},(l.map (·.born)).Nodup->e∈l->p e.born=q9->jM f (l.filter λx=> !p x.born)=f e+jM f (l.filter λx=> !(p x.born||x.born==e.born))/\(l.filter λx=> !(p x.born||x.born==e.born)).length<(l.filter λx=> !p x.born).length
 | [],e,_,c,_=>by simp at c
 |a::t,e,i,c,j=>by
  simp only[atS,aAj]at i;obtain⟨k,n⟩:=i;by_cases d:a.born=e.born
  .have:e=a:=by
    rcases B4.1 c with rfl|q
    .rfl
    .exact absurd (aui.2 ⟨e,q,d.symm⟩) k
   subst this;have o:t.filter (λx=> !(p x.born||x.born==e.born))=t.filter (λx=> !p x.born):=by refine aBV λx r=> ?_;have:x.born≠e.born:=λh=>k (aui.2 ⟨x,r,h⟩);simp[this]
   rw[aAk (by simp[j]),aAl Y,o];exact⟨by simp[jM],Y⟩
  .have s:e∈t:=by
    rcases B4.1 c with rfl|q
    .exact absurd rfl d
    .exact q
   obtain⟨g,m⟩:=Tj (f:=f) n s j;cases b:p a.born with
   |true=>rw[aAl (by simp[b]),aAl (by simp[b])];exact⟨g,m⟩
   |false=>rw[aAk (by simp[b]),aAk (by simp[b,d])];refine⟨?_,by simpa using m⟩;simp only[jM,atS,ay5]at g ⊢;rw[g];omega
def EG(es:Array HP)(seen:Array Nat):(iE es seen).toList=es.toList.filter λx=> !(seen.contains x.born):=by unfold iE;exact Array.toList_filter
def ajQ{f:HP->Int}{es:Array HP}{seen:Array Nat}{e:HP}(d:(es.toList.map (·.born)).Nodup)(h:e∈iE es seen):jM f (iE es seen).toList=f e+jM f (iE es (seen.push e.born)).toList/\(iE es (seen.push e.born)).size<(iE es seen).size:=by
 obtain⟨h1,i⟩:=ax2.1 h;have g:seen.contains e.born=q9:=by simpa using i
 obtain⟨a,b⟩:=Tj (f:=f) (p:=λn=>seen.contains n) d (by simpa using h1) g;have c:(iE es (seen.push e.born)).toList=es.toList.filter λx=> !(seen.contains x.born||x.born==e.born):=by rw[EG];refine aBV λx _=> ?_;rw[Array.contains_push]
 rw[EG,c];refine⟨a,?_⟩;have j:=congrArg av2 c;have k:=congrArg av2 (EG es seen);rw[Array.length_toList]at j k;omega
section
variable{P:tb}{h:ae}
def ajR{v:o5}[K:KK o5]:al P (avo (.tuple #[v]) 0) h=K.f v h:=by rw[dg];rfl
def ajS{a b c:o5}[K:KK o5]:al P (avo (.tuple #[a,b,c]) 0) h=K.f a h:=by rw[dg];rfl
def ajT{a b:o5}[K:KK o5]:al P (avo (.tuple #[a,b]) 0) h=K.f a h:=by rw[dg];rfl
end
def ajU:pv.underlying 218=C (.map 3 4):=O
def ajV:fS pv 218=C o0:=O
def ajW:bz pv 153=J:=O
section
variable{main:Bool}{ai:Type}{Sy:Sys ai}{s:ai}{h:ae}
def wu(c:Nat)(h h':ae):Prop:=∀b x,b≠c->h b=C x->h' b=C x
def ajX{l cm mb ck c10:Nat}{L:Loop}{es:Array HP}{o o2:Bool}{sE:HP->Int}{kE:HP->Int}{total:Int}(G:h l=C ⟨.loop L,J⟩)(hL:L.params=#[33])(ad:h cm=C ⟨.cells #[.map (C mb)] 218 (0,0),o⟩)(D:h mb=C ⟨.map es ck,o2⟩)
  (hb:∀e∈es,e.born<ck) (i:(es.toList.map (·.born)).Nodup) (hk:∀e∈es,e.key=.int .i64 (kE e)) (F:h c10=C ⟨.cells #[.int .i64 0] 3 (0,0),J⟩) (ht:jM sE es.toList=total)
  (step:∀h1 a e,e∈es->wu c10 h h1->h1 c10=C ⟨.cells #[.int .i64 a] 3 (0,0),J⟩->(∃r,0<=r/\a+sE e+r=total/\0<=a)->ki pv main Sy l L.fn (L.tmps.setIfInBounds 33 (.int .i64 (kE e))) L.assign L.body s h1 λq h' v=>q=s/\v=.bool J/\wu c10 h1 h'/\h' c10=C ⟨.cells #[.int .i64 (a+sE e)] 3 (0,0),J⟩)
  (hs:∀e∈es,0<=sE e):
  bo pv main Sy 153 #[mF l,aY cm] s h λq h' v=>q=s/\wu c10 h h'/\h' c10=C ⟨.cells #[.int .i64 total] 3 (0,0),J⟩:=by
 refine bL (n:=14) (args:=[mF l,aY cm]) Tryz.func153 ajG rfl Y ajH ?_;have lc:∀(b:aS) (K:ai->ae->o5->Prop),@eX pv main _ Sy b 218 (.pointer (C ⟨cm,0,o0⟩)) s h ⟨K⟩=K s h (.map (C mb)):=λb K=>jK (K:=⟨K⟩) ajV (A:=⟨cm,0,o0⟩) ad rfl rfl;simp only[aO,seval,ajF,ajE,mF,aY,lc];refine ajN (K:=⟨_⟩) ajU D λt u=> ?_;simp only[seval,ajD];have H:t≠c10:=λe=>by subst e;rw[F]at u;cases u
 refine du (λm e d q h'=>d=[]/\q=s/\e 0=mF l/\e 5=aY t/\∃seen a,m=(iE es seen).size/\wu c10 h h'/\h' t=C ⟨.mapIter (C mb) ck seen ck,J⟩/\h' c10=C ⟨.cells #[.int .i64 a] 3 (0,0),J⟩/\0<=a/\a+jM sE (iE es seen).toList=total) (λm e d q h' Jz=> ?_) (m:=(iE es #[]).size)
  ⟨rfl,rfl,by simp[aL,dC,mF],by simp[aL,aY],#[],0,rfl,λb x w p=>by rw[bx (λe=>by subst e;rw[p]at u;cases u)];exact p,cI,by rw[bx (Ne.symm H)];exact F,U,by rw[show(iE es #[]).toList=es.toList by rw[EG];simp];omega⟩
 obtain⟨rfl,rfl,e0,Q,seen,a,rfl,I,hi,hc,j,af⟩:=Jz;have M:h' mb=C ⟨.map es ck,o2⟩:=I mb _ (λe=>by subst e;rw[F]at D;cases D) D;simp only[aO,seval,ajC,Q,aY];refine ajO hi M hb (λag=> ?_) λg R=> ?_
 .simp only[aO,seval,ajR,Tg,Tf];refine me rfl ⟨rfl,I,?_⟩;have:a=total:=by rw[<- af,ag];simp[jM]
  rw[<- this];exact hc
 .simp only[aO,seval,ajS,Tg,Tf,ajB,ajA];refine .inl ⟨rfl,?_⟩;change aH pv (do let x <- aAi _;pure (Next.value x)) _ _;simp only[aJ,aR,gJ,aL,Nat.reduceEqDiff,if_false,Q,aY];have E:g∈es:=(ax2.1 R).1;have az:∀a∈es,∀b∈es,a.born=b.born->a=b:=λa j b a6 y=>by
   have key:∀(l:List HP),(l.map (·.born)).Nodup->∀a∈l,∀b∈l,a.born=b.born->a=b:=by
    intro l
    induction l with
    |nil=>intro _ a j;simp at j
    |cons c l N=>
     intro i a j b hb y;simp only[atS,aAj]at i;rcases B4.1 j with z|z
     .rcases B4.1 hb with k|k
      .rw[z,k]
      .exact absurd (aui.2 ⟨b,k,by rw[<- y,z]⟩:c.born∈l.map (λx=>x.born)) i.1
     .rcases B4.1 hb with k|k
      .exact absurd (aui.2 ⟨a,z,by rw[y,k]⟩:c.born∈l.map (λx=>x.born)) i.1
      .exact N i.2 a z b k y
   exact key es.toList i a (by simpa using j) b (by simpa using a6) y
  refine ajP (o:=o2) (o2:=J) (e:=g) cI (by rw[bx (λe=>by subst e;rw[M]at hi;cases hi)];exact M) E az ?_;simp only[tV];have a7:=hk g E;obtain⟨q1,q2⟩:=ajQ (f:=sE) i R;have ba:0<=jM sE (iE es (seen.push g.born)).toList:=by
   have key:∀l:List HP,(∀e∈l,0<=sE e)->0<=jM sE l:=by
    intro l
    induction l with
    |nil=>intro _;simp[jM]
    |cons c l N=>intro S;have h1:=S c Y;have W:=N λe B=>S e (by simp[B]);simp only[jM,atS,ay5]at W ⊢;omega
   exact key _ λe B=>by
    have B:e∈iE es (seen.push g.born):=by simpa using B
    exact hs e (ax2.1 B).1
  have P:wu c10 h (h'.put t ⟨.mapIter (C mb) ck (seen.push g.born) ck,J⟩):=λb x w p=>by rw[bx (λe=>by subst e;rw[p]at u;cases u)];exact I b x w p
  have bb:(h'.put t ⟨.mapIter (C mb) ck (seen.push g.born) ck,J⟩) c10=C ⟨.cells #[.int .i64 a] 3 (0,0),J⟩:=by rw[bx (Ne.symm H)];exact hc
  rw[a7];have nl:l≠c10:=λe=>by subst e;rw[F]at G;cases G
  simp only[aO,seval,ajT,ajz,ajy,e0,mF];rw[DR (K:=⟨_⟩) (P l _ nl G) hL];simp only[seval];refine ki.mono (λs2 W v2 ⟨r1,r2,X,r4⟩=> ?_) (step _ a g E P bb ⟨_,ba,U,j⟩);subst r1;subst r2;simp only[aO,seval];refine⟨_,q2,trivial,trivial,by simp[e0,mF],by simp[Q,aY],seen.push g.born,a+sE g,rfl,λb x w p=>X b x w (P b x w p),X t _ H cI,r4,?_,U⟩;have:=hs g E;omega
end
section
variable{os0:eI}{Post:o5->tg->Prop}{i:Nat}{s:av}{h:ae}{bB wg fb bb j6 gc lO mg:Nat}{fC:vb}{fF:Array o5}{nf:bX->bX->Int}{gf:bX->bX->Bool}{B:ae->Prop}{x:bX}{bS:Int}
def ajY(p:x∈dm)(y:uH q9 (dY 203 210 os0 Post i) B fC fF nf gf)(z:B h)(A:s.mu=bB)(g:s.wg=wg)(j:s.I=pK s.n0 fb bb)(k:fb≠bb)(l:gr 0 [x]<=bS)(m:s.full i=jB bS nf gf x 8)
  (W:S0 h j6 gc lO mg x bS fC fF) (D:dI i s s .out 0 8 q9 []) (E:s.cap<=s.n0+8):
  dv pv q9 (dY 203 210 os0 Post i) (λ_ _ _=>False) s h (born pv {target:=.fn (.func 97) (qP wg j6 gc lO mg bB fb bb),args:=#[]}):=by
 have e0:∀w,vx pv q9 (born pv {target:=.fn (.func 97) (qP wg j6 gc lO mg bB fb bb),args:=#[]}) w=.go (B5 (aue pv 97 (#[]++qP wg j6 gc lO mg bB fb bb) .deferred) [tj]) w #[]:=λw=>SX (ds:=[]) (kind:=_) (ro:=_) aje (.inr ⟨_,rfl⟩);refine dv.iG rfl e0 ?_;have n:aue pv 97 (#[]++qP wg j6 gc lO mg bB fb bb) .deferred=(⟨97,.deferred,o0⟩:aS).at ⟨(qP wg j6 gc lO mg bB fb bb)++avf (38- (qP wg j6 gc lO mg bB fb bb).size) vk,[]⟩ [.code xX]:=by rw[axc];simp[aue,aS.at,Tryz.func97,ab5]
 rw[n];have r:iR 38 ⟨(qP wg j6 gc lO mg bB fb bb)++avf (38- (qP wg j6 gc lO mg bB fb bb).size) vk,[]⟩ (dC [aY wg,aY j6,aY gc,aY lO,aY mg,aY bB,aY fb,aY bb]):=by
  refine⟨by simp[qP],λt=> ?_⟩;simp only[dC,qP,auZ,List.getD_eq_getElem?_getD,Array.getElem?_append];by_cases d:t<8
  .simp[d]
  .simp only[List.size_toArray,List.length_cons,List.length_nil,d,if_false];rw[List.getElem?_eq_none (by simpa using d)];simp only[Array.getElem?_replicate];split<;>rfl
 have f:∀(todo:List Item) (a:Act) (b:av) (h':ae),(∃r bd,a.defers=[{target:=.collected r,args:=#[]},{target:=.fn (.func 98) #[],args:=#[aY wg]}]/\h' r=C ⟨.deferred (C []),J⟩/\dI i s b .out 0 bd q9 (s.full i))->dv pv q9 (dY 203 210 os0 Post i) (λ_ _ _=>False) b h' (B5 {(⟨97,.deferred,o0⟩:aS).at a todo with mode:=.returning} [tj]):=λtodo a b h' ⟨r,bd,hd,o,c⟩=>by
  refine tU (g':=λ_=>B5 {(⟨97,.deferred,o0⟩:aS).at ⟨a.tmps,[{target:=.fn (.func 98) #[],args:=#[aY wg]}]⟩ todo with mode:=.returning} [tj]) (fn:=97) (K:=λv _=>v=[]) rfl (λ_ _ _ _ _ _=>trivial) (Ez o λh' _=>rfl) λw v w' es M e q=> ?_;subst q;refine⟨GH hd e,?_⟩;have F:∀w,vx pv q9 (B5 {(⟨97,.deferred,o0⟩:aS).at ⟨a.tmps,[{target:=.fn (.func 98) #[],args:=#[aY wg]}]⟩ todo with mode:=.returning} [tj]) w=.go (B5 (aue pv 98 (#[aY wg]++#[]) .deferred) [Ec a.tmps todo,tj]) w #[]:=λw=>SX (ds:=[]) ajf (.inl rfl);refine dv.iG rfl F ?_;have H:aue pv 98 (#[aY wg]++#[]) .deferred=Eb wg:=O
  rw[H];exact ajc c (by rw[c.cP.full]) (by rw[c.cP.wg];exact g) (by rw[c.cP.cap,c.cP.n0];exact E)
 have u:=aji (wg:=wg) p y z A j k l m W D;refine xg Y (xw ab6 r u) _ [] [tj] λL a b h' ⟨e,r,q⟩=> ?_;cases L with
 |ext i=>exact q.elim
 |cx=>exact .iG rfl (λw=>BI rfl) (f [] a b h' q)
 |ret=>exactλN=>.iG rfl (λw=>BJ rfl) (f _ a b h' q)
end
def Tk:List o5:=[.agg ⟨[.slice (C ⟨12,0,o0⟩) 2 2,.slice (C ⟨13,0,o0⟩) 2 2,.int .i64 20,.int .i64 1]⟩]
def Tl:Option (o5×aE):=eP fp iU 30 95 Tk (gd [.dead,.dead])
def AM:aE:=match Tl with|some (_,H)=>H|none=>gd []
def qQ(j:Nat):o5:=.slice (C ⟨15+3*j,0,o0⟩) 1 1
def ajZ:Tl=C (.slice (C ⟨38,0,o0⟩) 8 df,AM):=O
def Tm:AM.get 38=C (.cs J J 58 [qQ 0,qQ 1,qQ 2,qQ 3,qQ 4,qQ 5,qQ 6,qQ 7]):=O
def Tn:∀j,j<8->AM.get (15+3*j)=C (.cs J q9 57 (iL [hY j]))
 | 0,_=>by kernel_rfl
 | 1,_=>by kernel_rfl
 | 2,_=>by kernel_rfl
 | 3,_=>by kernel_rfl
 | 4,_=>by kernel_rfl
 | 5,_=>by kernel_rfl
 | 6,_=>by kernel_rfl
 | 7,_=>by kernel_rfl
 |n+8,h=>by omega
def aj0(k:Nat):jr k 1=1:=by unfold jr;rw[show lx 1=q9 by rfl];rfl
def EH(k:Nat):jr k 2=2:=by unfold jr;rw[show lx 2=q9 by rfl];rfl
def AN(ρ:aX)(j:Nat):Nat:=match ρ (15+3*j)with|some (b,_)=>b|none=>0
def aj1{ρ:aX}{j:Nat}{v:o5}(h:bj ρ (qQ j) v):v=.slice (C ⟨AN ρ j,0,o0⟩) 1 1:=by
 unfold qQ at h;cases h with
 |sl o n m e=>unfold AN;rw[e,aj0]
def Lx{ρ:aX}:∀{l d:List o5},cT ρ l d->∀{j:Nat} {v:o5},l[j]? =C v->∃c,d[j]? =C c/\bj ρ v c
 |_,_,.nil,j,v,h=>by simp at h
 |_,_,.cons a b,0,v,h=>by simp at h;subst h;exact⟨_,rfl,a⟩
 |_,_,.cons a b,j+1,v,h=>by obtain⟨c,h1,e⟩:=Lx b (j:=j) (by simpa using h);exact⟨c,by simpa using h1,e⟩
def yz(ba bd:Nat):o5:=.agg #[.slice (C ⟨ba,0,o0⟩) 2 2,.slice (C ⟨bd,0,o0⟩) 2 2,.int .i64 20,.int .i64 1]
section
variable{main:Bool}{ai:Type}{Sy:Sys ai}{s:ai}{h:ae}
def aj2{ba bd:Nat}(W:ba≠bd):bz pv 95=J/\bo pv main Sy 95 #[yz ba bd] s h λg h' v=>g=s/\h.ar h'/\∃(b k:Nat) (arr:Array o5) (bc:Nat->Nat),v=.slice (C ⟨b,0,o0⟩) 8 k/\h' b=C ⟨.cells arr 58 (0,0),J⟩/\h b=o0/\(∀j,j<8->arr[j]? =C (.slice (C ⟨bc j,0,o0⟩) 1 1))/\(∀j,j<8->pN h' (bc j) (hY j) J/\h (bc j)=o0):=by
 have E:eP fp iU 30 95 Tk (gd [.dead,.dead])=C (.slice (C ⟨38,0,o0⟩) 8 df,AM):=ajZ;obtain⟨G,q⟩:=uz (main:=main) (Sy:=Sy) (s:=s) (bs:=[(ba,0),(bd,0)]) (h:=h) (args':=[yz ba bd]) E rfl (λi j b k k' h1 a=>by
   match i,j with
   | 0,0=>rfl
   | 0,1=>simp at h1 a;omega
   | 1,0=>simp at h1 a;omega
   | 1,1=>rfl
   |i+2,_=>simp at h1
   | 0,j+2=>simp at a
   | 1,j+2=>simp at a)
  (λi x b k h1 a=>by
   match i with
   | 0=>simp at h1;subst h1;trivial
   | 1=>simp at h1;subst h1;trivial
   |i+2=>simp at h1)
  (.cons (.agg (.cons (by have:=bj.sl (ρ:=iz [(ba,0),(bd,0)]) (c:=12) (b:=ba) (k:=0) 0 2 2 rfl;rw[EH]at this;exact this) (.cons (by have:=bj.sl (ρ:=iz [(ba,0),(bd,0)]) (c:=13) (b:=bd) (k:=0) 0 2 2 rfl;rw[EH]at this;exact this) (.cons (.int _ _) (.cons (.int _ _) .nil))))) .nil)
 refine⟨G,q.mono λg h' v ⟨H,I,bq,S,u,F⟩=>⟨H,I,?_⟩⟩;have K:∀c,¬gL (gd [.dead,.dead]) c:=λc ⟨l,y,f,_⟩=>by
  rw[CO]at l;rw[xR]at f;split at f
  .cases f
  .have:=(F1.1 f).1;simp at this l;omega
 have p:∀c x b k,AM.get c=C x->14<=c->x.live=J->bq c=C (b,k)->h b=o0:=λc x b k h1 a L M=>by
  rcases F.lB c x b k h1 (by rw[vU];exact a) L M with q|⟨dy,k0,q,_⟩
  .exact q
  .exact absurd q (K dy)
 obtain⟨b,k,r,arr,fu,bJ,rest,N,P,w,z,X,r7⟩:=S.blk 38 _ Tm;cases u with
 |sl o n m e=>
  rw[r]at e;cases e;refine⟨b,jr k df,arr,AN bq,rfl,by rw[N,P rfl],p 38 _ b k Tm U rfl r,λj d=> ?_,λj d=> ?_⟩
  .obtain⟨v',t,Q⟩:=Lx z (j:=j) (v:=qQ j) (by
    match j,d with
    | 0,_|1,_|2,_|3,_|4,_|5,_|6,_|7,_=>rfl
    |j+8,d=>omega)
   rw[<- Array.getElem?_toList,w,List.getElem?_append_left (F1.1 t).1,t,aj1 Q]
  .obtain⟨bE,A,bZ,ad,af,c2,ag,cU,jA,fK,ie,R,t7⟩:=S.blk (15+3*j) _ (Tn j d);have B:AN bq j=bE:=by unfold AN;rw[bZ]
   rw[B];refine⟨?_,p _ _ bE A (Tn j d) U rfl bZ⟩;have D:=CU ie;rw[R rfl,List.append_nil,D]at fK;unfold pN;rw[cU,jA rfl,<- fK]
end
noncomputable def EI:rj:=ay6.body.getD .skip
def Ly:rj:=bf EI
def Lz:rj:=bf Ly
def LB:rj:=bf Lz
def LC:rj:=bf LB
def EJ:rj:=bf LC
def LD:rj:=bf EJ
def LF:rj:=bf LD
def To:rj:=bH LF
def yA:List sa:=[⟨C 25,.load 131 (.tmp 10),131, "butt.go:335",#[],o0⟩,⟨C 26,.load 4 (.tmp 11),4, "butt.go:335",#[⟨2,.gcOnly .lateStores⟩],o0⟩,⟨o0,.store 131 (.tmp 6) (.tmp 25),0, "butt.go:335",#[⟨0,.data⟩,⟨0,.phase⟩,⟨1,.textOnly .lateStores⟩],o0⟩,⟨C 7,.assign (.tmp 26),4, "butt.go:335",#[⟨1,.data⟩,⟨2,.chain⟩,⟨0,.phase⟩,⟨1,.phase⟩,⟨2,.phase⟩],o0⟩]
def aj3:=aF To (.region _ (axT yA) _) rfl
def aj4:=aF LF (.seq To .ret) rfl
def aj5:=aF LD (.seq (.region _ [_].toArray _) LF) rfl
def LG:rj:=bH EJ
def LH:rj:=bf LG
def LI:rj:=bH LH
def LJ:rj:=bH LI
def EK:rj:=bf LJ
def AO:rj:=bf EK
def Tp:rj:=bf AO
def aj6:=aF Tp (.region _ [_,_].toArray _) rfl
def LK:rj:=bH AO
def LL:rj:=bH LK
def LM:rj:=bf LL
def Tq:rj:=bf LM
def aj7:=aF Tq (.region _ [_,_].toArray _) rfl
def aj8:=aF LM (.seq (.region _ [_].toArray _) Tq) rfl
def aj9:=aF LL (.seq (.region _ [_,_,_,_].toArray _) LM) rfl
def aka:=aF LK (.block _ LL) rfl
def akb:=aF AO (.seq LK Tp) rfl
def Tr:rj:=bH EK
def Ts:=aF Tr (.cond _ .skip (.exit 0)) rfl
def Tt:=aF EK (.seq Tr AO) rfl
def Tu:=aF LJ (.seq (.region _ [_].toArray _) EK) rfl
def akc:=aF LI (.loop LJ) rfl
def akd:=aF LH (.block _ LI) rfl
def ake:=aF LG (.seq (.region _ [_,_,_,_].toArray _) LH) rfl
def akf:=aF EJ (.seq LG LD) rfl
def akg:=aF LC (.seq (.region _ [_,_].toArray _) EJ) rfl
def akh:=aF LB (.seq (.region _ [_].toArray _) LC) rfl
def aki:=aF Lz (.seq (.region _ [_].toArray _) LB) rfl
def akj:=aF Ly (.seq (.region _ [_].toArray _) Lz) rfl
def akk:=aF EI (.seq (.region _ [_,_,_,_,_].toArray _) Ly) rfl
def akl:ay6.body=C EI:=O
def akm:fN 27 EI=J:=O
section
variable{P:tb}{main:Bool}{ai:Type}{Sy:Sys ai}{b:aS}{d:List tc}{ops:Array sa}{N:Env->List tc->ai->ae->Prop}
def akn(he:l5 0 ops.toList=J)(ab:P.follows .mixedOrders=J)(hg:∀(i:Nat) (o:sa),ops[i]? =C o->o.guard=o0)
  (hd:∀(i j:Nat) (o f:sa) (t:Nat),ops[i]? =C o->ops[j]? =C f->o.dst=C t->f.dst=C t->i=j)
  (g:Nat) (F:Bool->Nat->o5->ae->Prop) (Fm:∀c i v h h',h.ar h'->F c i v h->F c i v h') (Zz:Bool->ai->Prop) {e0:Env} {aP:ai} {h0:ae} (R:ae->ae->Prop) (r:Bool->ae->Prop) (af:∀c h h',h.ar h'->r c h->r c h') (R0:∀h h',r q9 h->R h h'->r J h') (az:r q9 h0) (FR:∀i v h h',R h h'->F q9 i v h->F J i v h') (z0:Zz q9 aP)
  (step:∀(i:Nat) (o:sa),ops[i]? =C o->∀e s h c,r c h->(∀a,(∀(j:Nat) (f:sa),ops[j]? =C f->f.dst≠C a)->e a=e0 a)->Zz c s->(i=g->c=q9)->(∀x∈o.after,atV .any x=J->∀f a,ops[x.on]? =C f->f.dst=C a->F c x.on (e a) h)->
   bP P main Sy b o e d s h λe' M K h'=>M=d/\∃v,e'=b7 e o.dst v/\(if i=g then Zz J K/\R h h'/\F J i v h' else K=s/\h.ar h'/\F c i v h'))
  (bl:∀e s h,r (decide (g<ops.size)) h->(∀a,(∀(j:Nat) (f:sa),ops[j]? =C f->f.dst≠C a)->e a=e0 a)->(∀(i:Nat) (o:sa) (t:Nat),ops[i]? =C o->o.dst=C t->F (decide (g<ops.size)) i (e t) h)->Zz (decide (g<ops.size)) s->N e d s h) (t:Nat):
  fO P main Sy b ops (atM (P.follows .mixedOrders) ops t) e0 d aP h0 N:=by
 unfold atM;rw[ab,Bool.true_or,if_pos rfl];refine uu he (λD e s h=>r (decide (g<ops.size)&&D g) h/\(∀a,(∀(j:Nat) (f:sa),ops[j]? =C f->f.dst≠C a)->e a=e0 a)/\(∀(i:Nat) (o:sa) (t:Nat),ops[i]? =C o->o.dst=C t->D i=J->F (decide (g<ops.size)&&D g) i (e t) h)/\Zz (decide (g<ops.size)&&D g) s)
  (λD D' e s h Q ⟨n,u,p,w⟩=> ?_) (λD e s h i o ⟨n,u,p,w⟩ hi E z a8=> ?_) (λD e s h ⟨n,u,p,w⟩ S=> ?_) ⟨by simpa using az,λ_ _=>rfl,λi o t _ _ hD=>(Bool.false_ne_true hD).elim,by simpa using z0⟩ t
 .have e:(decide (g<ops.size)&&D g)=(decide (g<ops.size)&&D' g):=by
   by_cases k:g<ops.size
   .rw[Q g k]
   .simp[k]
  rw[<- e];exact⟨n,u,λi o t hi y E=>p i o t hi y (by rw[Q i (auv.1 hi).1];exact E),w⟩
 .have hw:R9 o (jV ops e)=J:=by simp[R9,hg i o z]
  rw[if_pos hw];have bb:=step i o z e s h (decide (g<ops.size)&&D g) n u w (λk=>by subst k;rw[E,auV]) (λx bn hb f a bd l=>p x.on f a bd l (a8 x bn hb))
  refine vR (λe' M K h' ⟨r1,v,r2,G⟩=> ?_) (pz bb);subst r2;refine⟨r1,?_⟩;have X:∀a,(∀(j:Nat) (f:sa),ops[j]? =C f->f.dst≠C a)->b7 e o.dst v a=e0 a:=λa H=>by
   cases y:o.dst with
   |none=>exact u a H
   |some t=>rw[eU,aL,if_neg (λe'=>H i o z (by rw[y,e']))];exact u a H
  have W:∀(j:Nat) (f:sa) (a:Nat),j≠i->ops[j]? =C f->f.dst=C a->b7 e o.dst v a=e a:=λj f a q m l=>by
   cases y:o.dst with
   |none=>rfl
   |some t=>rw[eU,aL,if_neg (λe'=>q (hd j i f o t m z (by rw[l,e']) y))]
  by_cases k:i=g
  .subst k;simp only[if_true]at G;obtain⟨I,B,eZ⟩:=G;have L:(decide (i<ops.size)&&D i)=q9:=by rw[E,auV]
   rw[L]at p n;simp only[if_true,hi,decide_true,awH];refine⟨R0 _ _ n B,X,λj f a m l A=> ?_,I⟩;by_cases q:j=i
   .subst q;rw[z]at m;cases m;rw[l,eU,aL,if_pos rfl];exact eZ
   .simp only[if_neg q]at A;rw[W j f a q m l];exact FR _ _ _ _ B (p j f a m l A)
  .simp only[if_neg k]at G;obtain⟨I,B,eZ⟩:=G;subst I;simp only[if_neg (λe=>k (Eq.symm e):¬g=i)];refine⟨af _ _ _ B n,X,λj f a m l A=> ?_,w⟩;by_cases q:j=i
   .subst q;rw[z]at m;cases m;rw[l,eU,aL,if_pos rfl];exact eZ
   .simp only[if_neg q]at A;rw[W j f a q m l];exact Fm _ _ _ _ _ B (p j f a m l A)
 .have L:(decide (g<ops.size)&&D g)=decide (g<ops.size):=by
   by_cases k:g<ops.size
   .rw[S g k,awH]
   .simp[k]
  rw[L]at n p w;exact bl e s h n u (λi o t hi y=>p i o t hi y (S i (auv.1 hi).1)) w
end
section
variable{P:tb}{main:Bool}{ai:Type}{Sy:Sys ai}{b:aS}{d:List tc}{l:List sa}{N:Env->List tc->ai->ae->Prop}
def LN(y:mE l=J)(Q:l5 0 l=J)(D:P.follows .mixedOrders=J)
  (k:Nat) (F:Bool->Nat->o5->ae->Prop) (Fm:∀c i v h h',h.ar h'->F c i v h->F c i v h') (Zz:Bool->ai->Prop) {e0:Env} {aP:ai} {h0:ae} (R:ae->ae->Prop) (g:Bool->ae->Prop) (E:∀c h h',h.ar h'->g c h->g c h') (G:∀h h',g q9 h->R h h'->g J h') (H:g q9 h0) (I:∀i v h h',R h h'->F q9 i v h->F J i v h') (S:Zz q9 aP)
  (step:∀(i:Nat) (o:sa),l[i]? =C o->∀e s h c,g c h->(∀a,l.all (λf=>f.dst != C a)=J->e a=e0 a)->Zz c s->(i=k->c=q9)->(∀(j a:Nat),(o.after.toList.any λx=>x.on==j&&atV .any x)=J->(l[j]?).bind (·.dst)=C a->F c j (e a) h)->
   bP P main Sy b o e d s h λe' K z h'=>K=d/\∃v,e'=b7 e o.dst v/\(if i=k then Zz J z/\R h h'/\F J i v h' else z=s/\h.ar h'/\F c i v h'))
  (W:∀e s h,g (decide (k<l.length)) h->(∀a,l.all (λf=>f.dst != C a)=J->e a=e0 a)->(∀(i a:Nat),(l[i]?).bind (·.dst)=C a->F (decide (k<l.length)) i (e a) h)->Zz (decide (k<l.length)) s->N e d s h) (t:Nat):
  fO P main Sy b l.toArray (atM (P.follows .mixedOrders) l.toArray t) e0 d aP h0 N:=by
 have L:l.toArray.size=l.length:=Y
 have A:∀{a},l.all (λf=>f.dst != C a)=J->∀(j:Nat) (f:sa),l.toArray[j]? =C f->f.dst≠C a:=λ{a} h j f m=>by have:=List.all_eq_true.1 h f (List.mem_of_getElem? (by simpa using m));simpa using this
 refine akn (ops:=l.toArray) Q D (λi o hi=>uD y (by simpa using hi)) (λi j o f t hi m h1 X=>uE y (by simpa using hi) (by simpa using m) (h1.trans X.symm) (by rw[h1];simp)) k F Fm Zz R g E G H I S ?_ ?_ t
 .intro i o hi e s h c n r p M q;refine step i o (by simpa using hi) e s h c n (λa h'=>r a (A h')) p M λj a B m=> ?_;rw[List.any_eq_true]at B;obtain⟨x,hm,hb⟩:=B;simp only[Bool.and_eq_true,beq_iff_eq]at hb;obtain⟨rfl,hb⟩:=hb;obtain⟨f,u,w⟩:=auK.1 m;exact q x (by simpa using hm) hb f a (by simpa using u) w
 .intro e s h n r p q;rw[L]at n p q;refine W e s h n (λa h'=>r a (A h')) (λi a hi=> ?_) q;obtain⟨f,u,w⟩:=auK.1 hi;exact p i f a (by simpa using u) w
end
end
end Go.Nk
