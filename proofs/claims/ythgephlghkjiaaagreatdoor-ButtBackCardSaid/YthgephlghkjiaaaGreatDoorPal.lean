/- Part Pal of the proof of ButtBack: lemmas. -/
import Derived.Conc.EntryLaws
import Derived.Conc.MuStops
import Derived.Conc.AtomicLaws2
import Derived.Conc.ClockLaws
import Derived.Conc.MarkLaws
import Derived.Test.YthgephlghkjiaaaGreatDoorPak
set_option maxRecDepth 100000
set_option maxHeartbeats 4000000
set_option linter.all false
namespace Go.Nk
noncomputable section
open Go Go.Conc Go.Proofs
def xX(γ:ay)(e:Event):Prop:=e.loc=.mark .disable\/e.loc=.mark .enable\/∃a x,e=⟨.cell a,x,true⟩/\a.block∈γ.sh
section
variable{tM tW:TypeId}{os0:eB}{γ:ay}{n i:Nat}{hs:Nat->ab}{w w':World}{t:Trace}{es:Array Event}
theorem acV{fn:FuncId}{pos:String}
  (lX:∀j e,es[j]? =some e->(MemAct.ofEvent e).touch? =none\/((∃o9 wr,e=⟨.cell o9,wr,true⟩)/\0<deafBehind (Deaf t i) (es.extract 0 j))):
  ∀k,t.size<=k->(t++MemOp.ofEvents i fn pos es).g? k=some i->¬(t++MemOp.ofEvents i fn pos es).counts k:=by
 intro k hk _ ⟨x,aa,_,hc⟩;obtain ⟨act,Pl,vY⟩:=Option.bind_eq_some_iff.1 aa;obtain ⟨op,aQ,rfl⟩:=Option.map_eq_some_iff.1 Pl;have ae:(MemOp.ofEvents i fn pos es)[k- t.size]? =some op:=by
  rw [Array.getElem?_append] at aQ;simpa [Nat.not_lt.2 hk] using aQ
 rw [ofEvents_eq,Array.getElem?_map] at ae;obtain ⟨e,he,rfl⟩:=Option.map_eq_some_iff.1 ae;have AB:k- t.size<=es.size:=by
  rcases Nat.lt_or_ge (k- t.size) es.size with h'|h'
  ·omega
  ·rw [Array.getElem?_eq_none h'] at he;cases he
 rcases lX _ e he with h0|⟨⟨o9,wr,rfl⟩,hd⟩
 ·simp only at vY;rw [h0] at vY;cases vY
 ·have avw:x.kind=.atomic:=by
   cases wr<;>simp [MemAct.ofEvent,MemAct.touch?] at vY<;>subst vY<;>rfl
  rcases hc with hc|⟨g,aG,m3⟩
  ·exact hc avw
  ·have uo:g=i:=by simp [Trace.g?,aQ] at aG;exact aG.symm
   subst uo;have:=deaf_inside t g fn pos es (k- t.size) AB;rw [show t.size+(k- t.size)=k by omega,m3] at this;omega
theorem dh.book(G:dh tM tW os0 γ n hs w t)(hi:i<n)(aG:¬γ.gone i)(eJ:w'.heap.size=w.heap.size)(hb:∀b,b∉γ.sh->w'.heap[b]? =w.heap[b]?)
  (lX:∀j e,es[j]? =some e->xX γ e/\((MemAct.ofEvent e).touch? =none\/(0<i->γ.wd i≠.wk->0<deafBehind (γ.bH i) (es.extract 0 j)))) (fn:FuncId) (pos:String):
  fy hs n γ.gP (· ∈γ.sh) ⟨γ.mu,0,none⟩ γ.bW w' (t++MemOp.ofEvents i fn pos es)/\s6 ⟨γ.wg,0,none⟩ (γ.eE hs) n (t++MemOp.ofEvents i fn pos es)/\
  (∀j,j<n->¬γ.gone j->Deaf (t++MemOp.ofEvents i fn pos es) j=if j=i then deafBehind (γ.bH i) es else γ.bH j):=by
 have mem:∀op∈MemOp.ofEvents i fn pos es,∃e,xX γ e/\op= {g:=i,fn,pos,act:=.ofEvent e}:=fun op aF=>by
  rw [ofEvents_eq] at aF;obtain ⟨e,he,rfl⟩:=Array.mem_map.1 aF;obtain ⟨j,ae⟩:=Array.mem_iff_getElem?.1 he;exact ⟨e,(lX j e ae).1,rfl⟩
 have norel:∀op∈MemOp.ofEvents i fn pos es,∀a,op.act≠.mark (.release a):=fun op aF a h=>by
  obtain ⟨e,he,rfl⟩:=mem op aF;have af:=Go.ConcR.loc_of_ofEvent h;rcases he with h1|h1|⟨o9,x,rfl,_⟩
  ·rw [h1] at af;cases af
  ·rw [h1] at af;cases af
  ·cases af
 have sH:Deaf t i=γ.bH i:=G.bH i hi aG;refine ⟨G.hi.shared hi eJ hb fun op aF=> ?_,G.ji.app (g:=i) (fun op aF=>tx aF) (fun op aF=>norel op aF _) fun h0 hw=> ?_,fun j ae kX=> ?_⟩
 ·have al:=norel op aF ⟨γ.mu,0,none⟩;obtain ⟨e,he,rfl⟩:=mem op aF;rcases he with h1|h1|⟨o9,x,rfl,aA⟩
  ·obtain ⟨loc,wr,nO⟩:=e;simp only at h1;subst h1;exact ⟨⟨rfl,al,fun y ax=>by simp [MemAct.ofEvent,MemAct.touch?] at ax⟩,trivial⟩
  ·obtain ⟨loc,wr,nO⟩:=e;simp only at h1;subst h1;exact ⟨⟨rfl,al,fun y ax=>by simp [MemAct.ofEvent,MemAct.touch?] at ax⟩,trivial⟩
  ·refine ⟨⟨rfl,al,fun y ax=> ?_⟩,G.hi.low _ aA⟩;simp only [MemAct.ofEvent,MemAct.touch?,Option.some.injEq] at ax;subst ax;exact ⟨o9.block,rfl,.inl ⟨aA,by simp,by simp⟩⟩
 ·refine acV fun j e he=> ?_;obtain ⟨hk,h⟩:=lX j e he;rcases h with h|h
  ·exact .inl h
  ·rcases hk with h1|h1|⟨o9,x,rfl,_⟩
   ·obtain ⟨loc,wr,nO⟩:=e;simp only at h1;subst h1;exact .inl (by simp [MemAct.ofEvent,MemAct.touch?])
   ·obtain ⟨loc,wr,nO⟩:=e;simp only at h1;subst h1;exact .inl (by simp [MemAct.ofEvent,MemAct.touch?])
   ·refine .inr ⟨⟨o9,x,rfl⟩,?_⟩;rw [sH];refine h h0 fun e=>hw ?_;unfold ay.eE;have hj:¬i<γ.n0:=fun bY=>by have:=G.old i h0 bY;rw [e] at this;cases this
    rw [if_neg hj,if_pos (.inl e)]
 ·by_cases ec:j=i
  ·subst ec;rw [Deaf_own,sH,if_pos rfl]
  ·rw [if_neg ec,Deaf_other t (g':=i) (fun e=>ec e.symm) _ (fun op aF=>tx aF)];exact G.bH j ae kX
end
section
variable{P:Program}{tM tW:TypeId}{os0:eB}{Post:Value->World->Prop}{i:Nat}{b:bn}{o:Oper}{aS:Operand->Value}{s:ay}{h:ab}{K:ay->ab->Value->Prop}
theorem BG(hs:∀(a:Act) (ops:Array Oper) (j:Nat) (rest:List Nat) (k:List Item) (cs:List Frame),b.kind≠.early->a.eval=aS->ops[j]? =some o->Region.wanted o (yielded ops a.tmps)=true->
   ∀(γ:ay) (n:Nat) (hs:Nat->ab) (w:World) (t:Trace),ay.Rel i s γ->dh tM tW os0 γ n hs w t->i<n->¬γ.gone i->hs i=h->
   (γ.waits i/\stepG P false (G (b.at a (.inRegion ops (j::rest)::k)) cs) w=.go {G (b.at a (.inRegion ops (j::rest)::k)) cs with status:=.blocked} w #[])\/
   (∃γ' v w' es h',stepG P false (G (b.at a (.inRegion ops (j::rest)::k)) cs) w=.go (G (b.at (a.put o.dst v) (.inRegion ops rest::k)) cs) w' es/\
    dh tM tW os0 γ' n (cC hs i h') w' (t++opsOf i (G (b.at a (.inRegion ops (j::rest)::k)) cs) es)/\(fC P tM tW os0 Post).ru i γ γ'/\
    (fC P tM tW os0 Post).rO (G (b.at a (.inRegion ops (j::rest)::k)) cs) γ γ'/\¬γ'.gone i/\K γ' h' v)):
  lJ P false ((fC P tM tW os0 Post).hM i) b o aS s h K:=by
 intro Q a ops j rest k cs hk aA aQ hw c;refine dp.sync ⟨rfl,rfl,fun γ n dX w t al cQ hi aG he=> ?_⟩;rcases hs a ops j rest k cs hk aA aQ hw γ n dX w t al cQ hi aG he with h1|⟨γ',v,w',es,h',e1,e2,e3,e4,e5,e6⟩
 ·exact .inl h1
 ·exact .inr ⟨γ',_,w',es,h',e1,e2,e3,e4,.inr ⟨e5,rfl,c γ' h' v e6⟩⟩
end
section
variable{P:Program}{main:Bool}{b:bn}{a:Act}{k:List Item}{cs:List Frame}{w w':World}{f:FuncId}{fn:Func}{ops:Array Oper}{i:Nat}{rest:List Nat}{o:Oper}{hU:Array TypeId}{b8:Array Operand}{e:Array Value->Sem Value}
theorem Lr(aF:o.op=.call {callee:=.value (.func f),args:=b8,argTypes:=hU}):lE b o=false:=by
 unfold lE;rw [aF]
theorem u6{α:Type}(m:Sem α)(w:World)(es:Array Event):m.runT P w es=(m.run P w,m.events P w es):=by
 apply Prod.ext
 ·exact (Sem.runT_fst ..)
 ·rfl
theorem tr(aQ:ops[i]? =some o)(hw:Region.wanted o (yielded ops a.tmps)=true)(hk:b.kind≠.early)(aF:o.op=.call {callee:=.value (.func f),args:=b8,argTypes:=hU})
  (aP:P.funcs[f]? =some fn) (qg:(fn.name== "runtime.NumGoroutine")=false) (hb:fn.body.isNone=true) (ao:Extern.findNext fn=none) (he:Extern.find fn=some e)
  {v:Value} {evs:Array Event} (qo:(e (b8.map a.eval)).run P w=.ok v w')
  (iO:(e (b8.map a.eval)).events P w #[⟨.mark (.extern f),false,true⟩]=#[⟨.mark (.extern f),false,true⟩]++evs) (hs:∀x∈evs,x.sync=true/\∀g,x.loc≠.mark (.extern g)):
  stepG P main (G (b.at a (.inRegion ops (i::rest)::k)) cs) w=.go (G (b.at (a.put o.dst v) (.inRegion ops rest::k)) cs) w' evs:=by
 have e1:=execOp_call_func (a:=a) aF;have al:(execOp a.eval o).runT P w #[]=(.ok (.value v) w',#[⟨.mark (.extern f),false,true⟩]++evs):=by
  rw [u6,e1,run_callFunc_extern aP qg hb ao he,qo,events_callFunc_extern aP qg hb ao he];simp only [List.push_toArray,List.nil_append];rw [iO];rfl
 rw [tq aQ hw (Lr aF) hk al rfl,seen_entry _ _ _ hs]
theorem Ss(aQ:ops[i]? =some o)(hw:Region.wanted o (yielded ops a.tmps)=true)(aF:o.op=.call {callee:=.value (.func f),args:=b8,argTypes:=hU})
  (aP:P.funcs[f]? =some fn) (qg:(fn.name== "runtime.NumGoroutine")=false) (hb:fn.body.isNone=true) (ao:Extern.findNext fn=none) (he:Extern.find fn=some e)
  (qo:(e (b8.map a.eval)).run P w=.halt .blocked w'):
  stepG P main (G (b.at a (.inRegion ops (i::rest)::k)) cs) w=.go {G (b.at a (.inRegion ops (i::rest)::k)) cs with status:=.blocked} w' #[]:=by
 have e1:=execOp_call_func (a:=a) aF;have al:(execOp a.eval o).run P w=.halt .blocked w':=by rw [e1,run_callFunc_extern aP qg hb ao he,qo];rfl
 rw [K4 aQ hw (Lr aF)];simp [stepG.apply,u6,al,G,GStep.after,seen_none]
end
section
open Go.ConcM (OsLater muBlock)
section
variable{P:Program}{tM tW:TypeId}{os0:eB}{Post:Value->World->Prop}{γ:ay}{n i:Nat}{hs:Nat->ab}{w w':World}{t:Trace}{es:Array Event}{x':cK}
def ay.bB(γ:ay)(i:Nat)(x':cK)(es:Array Event):ay:= {γ with x:=x',bH:=Go.ConcN.upd γ.bH i (deafBehind (γ.bH i) es)}
theorem dh.bB(G:dh tM tW os0 γ n hs w t)(h0:0<i)(hi:i<n)(hn:γ.on=true)(lY:γ.wd i=.wk)(dF:γ.n0<=i)(aa:x'.cu γ.cap)(pE:∀j,j≠i->x'.md j=γ.x.md j/\x'.di j=γ.x.di j)
  (eD:γ.cw=some i->x'.md i=.own) (eJ:w'.heap.size=w.heap.size) (hb:∀b,b≠γ.mu->w'.heap[b]? =w.heap[b]?) (gw:w'.heap[γ.mu]? =some (muBlock tM x'.mu x'.M)) (vN:ni w w')
  (lX:∀e∈es,xX γ e) (fn:FuncId) (pos:String):dh tM tW os0 (γ.bB i x' es) n hs w' (t++MemOp.ofEvents i fn pos es):=by
 have m6:∀j,j≠i->x'.md j=γ.x.md j:=fun j ae=>(pE j ae).1;obtain ⟨fx,fW,jj⟩:=G.gR hn;have aG:¬γ.gone i:=fun h=>absurd h.2 (by rw [lY];simp);obtain ⟨cl,bV,dz⟩:=G.book hi aG eJ (fun b fv=>hb b fun e=>fv (by rw [e];exact fx)) (es:=es) (fun j e he=>⟨lX e (Array.mem_of_getElem? he),.inr fun _ h=>absurd lY h⟩) fn pos;exact {
  aR:=G.aR
  pos:=G.pos
  n0:=G.n0
  hi:=cl
  ji:=bV
  bH:=fun j ae kX=>by
   rw [dz j ae kX];show _=Go.ConcN.upd γ.bH i (deafBehind (γ.bH i) es) j;by_cases e:j=i
   ·subst e;rw [if_pos rfl,Go.ConcN.upd_same]
   ·rw [if_neg e,Go.ConcN.upd_ne _ _ e]
  old:=G.old
  jz:=fun _=>gw
  jd:=fun _=>by rw [show (γ.bB i x' es).wg=γ.wg from rfl,hb _ (Ne.symm jj)];exact G.jd hn
  gR:=G.gR
  ok:=aa
  cap:=G.cap
  out:=fun j ae=>by
   have ec:j≠i:=by
    rintro rfl;rcases ae with e|e|e
    ·omega
    ·omega
    ·exact e lY
   show x'.md j=.out;rw [m6 j ec];exact G.out j ae
  cw:=fun j ae=>by
   refine ⟨(G.cw j ae).1,?_⟩;show x'.md j=.own;by_cases e:j=i
   ·subst e;exact eD ae
   ·rw [m6 j e];exact (G.cw j ae).2
  ll:=G.ll
  full:=G.full
  hl:=⟨G.hl.v,G.hl.st⟩
  eF:=G.eF
  os:=G.os.trans vN
  jZ:=fun h=>by have:=G.j0 hn;rw [show (γ.bB i x' es).ib=γ.ib from rfl,this] at h;cases h
  j0:=G.j0
  ku:=fun j h1 h2=>⟨(G.ku j h1 h2).1,by show x'.di j=γ.b0;rw [(pE j (by omega)).2];exact (G.ku j h1 h2).2⟩}
theorem Gd(m6:∀j,j≠i->x'.md j=γ.x.md j/\x'.di j=γ.x.di j)(aK:x'.cf γ.cap<=γ.x.cf γ.cap)(ap8:x'.mu≠γ.x.mu->x'.cf γ.cap<γ.x.cf γ.cap):
  (fC P tM tW os0 Post).ru i γ (γ.bB i x' es):=by
 intro j ae;refine ⟨.inr (.inr ⟨Nat.le_refl _,rfl,rfl,rfl,rfl,rfl,rfl,rfl,rfl,(m6 j ae).1,(m6 j ae).2,Go.ConcN.upd_ne _ _ ae,Iff.rfl,rfl,aK,ap8,fun _=>rfl,fun _=>⟨rfl,rfl,rfl,Nat.le_refl _,fun _=>⟨rfl,rfl⟩⟩,rfl,rfl⟩),Iff.rfl⟩
theorem G1{g:Goroutine}(m6:∀j,j≠i->x'.md j=γ.x.md j)(hi:γ.x.md i=.hT->x'.md i=.hT\/0<γ.x.M)(dJ:x'.M<=γ.x.M\/mayWake P g=true):(fC P tM tW os0 Post).rO g γ (γ.bB i x' es):=by
 intro j h1 h2;rcases dJ with dJ|dJ
 ·exfalso;apply h2;change (γ.bB i x' es).waits j;have dy:γ.waits j:=h1;unfold ay.waits at dy ⊢;by_cases ae:j=0
  ·rw [if_pos ae] at dy ⊢;exact dy
  ·rw [if_neg ae] at dy ⊢;refine ⟨?_,by show x'.M=0;omega⟩;show x'.md j=.hT;by_cases e:j=i
   ·subst e;rcases hi dy.1 with h|h
    ·exact h
    ·omega
   ·rw [m6 j e];exact dy.1
 ·exact dJ
end
end
section
open Go.ConcM (OsLater muBlock MuAt muA)
section
variable{P:Program}{tM tW:TypeId}{os0:eB}{Post:Value->World->Prop}{i:Nat}{b:bn}{s:ay}{h:ab}{K:ay->ab->Value->Prop}{f:FuncId}{fn:Func}
structure gW(i:Nat)(s γ:ay):Prop where
 rel:ay.lS i s γ
 ok:γ.x.cu γ.cap
 iy:∀j,γ.x.md j≠.out->γ.n0<=j
theorem dh.iy{tM tW:TypeId}{os0:eB}{γ:ay}{n:Nat}{hs:Nat->ab}{w:World}{t:Trace}(G:dh tM tW os0 γ n hs w t):∀j,γ.x.md j≠.out->γ.n0<=j:=fun j ae=>by
 have h1:j≠0:=fun e=>ae (G.out j (.inl e));have h2:γ.wd j=.wk:=Classical.byContradiction fun e=>ae (G.out j (.inr (.inr e)));refine Nat.le_of_not_lt fun bY=> ?_;rw [G.old j (by omega) bY] at h2;cases h2
theorem ap9(h0:0<i)(hn:s.on=true)(lY:s.wd i=.wk)(hj:s.n0<=i)(iz:i<s.aR)
  (aP:P.funcs[f]? =some fn) (qg:(fn.name== "runtime.NumGoroutine")=false) (hb:fn.body.isNone=true) (ao:Extern.findNext fn=none) (he:Extern.find fn=some (Extern.Atomic.casT (.int .i32))) {old new:Int}
  (hit:∀γ,gW i s γ->(γ.x.mu:Int)=old->∃x',x'.cu γ.cap/\((x'.mu:Nat):Int)=new/\x'.M=γ.x.M/\(∀j,j≠i->x'.md j=γ.x.md j/\x'.di j=γ.x.di j)/\x'.cf γ.cap<γ.x.cf γ.cap/\(γ.cw=some i->x'.md i=.own)/\(γ.x.md i=.hT->x'.md i=.hT)/\
   K (γ.bB i x' #[⟨.cell ⟨s.mu,0,none⟩,false,true⟩,⟨.cell ⟨s.mu,0,none⟩,true,true⟩]) h (.bool true))
  (Co:∀γ,gW i s γ->(γ.x.mu:Int)≠old->K (γ.bB i γ.x #[⟨.cell ⟨s.mu,0,none⟩,false,true⟩]) h (.bool false)):
  eX P false ((fC P tM tW os0 Post).hM i) f #[.pointer (some ⟨s.mu,0,none⟩),.int .i32 old,.int .i32 new] s h (K:=⟨K⟩):=by
 refine .inr (.inr fun b o aS b8 hU aF jw=>BG fun a ops j rest k cs hk aA aQ hw γ n hs w t al G hi aG gx=>.inr ?_);subst aA;have cZ:=al.s iz aG;have k7:γ.on=true:=cZ.on.trans hn;have gw:γ.mu=s.mu:=cZ.mu;have dJ:MuAt tM s.mu w γ.x.mu γ.x.M:=by rw [<- gw];exact G.jz k7
 have hc:w.cell? ⟨s.mu,0,none⟩=some (.int .i32 γ.x.mu):=dJ.cellSt;have aH:=dJ.thaw 0;have a8:gW i s γ:=⟨cZ,G.ok,G.iy⟩;obtain ⟨fx,fW,jj⟩:=G.gR k7;have oc:γ.wd i=.wk:=cZ.wd.trans lY;have Al:γ.n0<=i:=by rw [cZ.n0];exact hj
 have acf:∀x,xX γ ⟨.cell ⟨s.mu,0,none⟩,x,true⟩:=fun x=>.inr (.inr ⟨_,x,rfl,by rw [<- gw];exact fx⟩);have Iv:∀γ':ay,γ'.wd=γ.wd->¬γ'.gone i:=fun γ' e iN=>by have:=iN.2;rw [e,oc] at this;cases this
 by_cases aI:(γ.x.mu:Int)=old
 ·obtain ⟨x',c1,c2,c3,c4,c5,c6,dC,eN⟩:=hit γ a8 aI;have cj:=tr (rest:=rest) (main:=false) (b:=b) (a:=a) (k:=k) (cs:=cs) (w:=w) aQ hw hk aF aP qg hb ao he (evs:=#[⟨.cell ⟨s.mu,0,none⟩,false,true⟩,⟨.cell ⟨s.mu,0,none⟩,true,true⟩])
   (by rw [jw,casT_eq,<- aI];exact run_cas_hit_entry hc aH) (by rw [jw,casT_eq,<- aI,events_cas_hit_entry hc aH];rfl) (sync_rw _)
  refine ⟨γ.bB i x' _,_,_,_,h,cj,?_,Gd c4 (Nat.le_of_lt c5) (fun _=>c5),G1 (fun j ae=>(c4 j ae).1) (fun e=>.inl (dC e)) (.inl (by omega)),Iv _ rfl,eN⟩;rw [<- gx,p9];have A:=aside_setCell w (muA s.mu) (.int .i32 new);refine G.bB h0 hi k7 oc Al c1 c4 c6 A.size (fun b hb=>A.block b (by rw [<- gw];exact hb)) ?_ (ni.of A.os A.output) (fun e he=> ?_) _ _
  ·rw [gw,c2,c3];exact dJ.setSt new
  ·simp at he;rcases he with rfl|rfl<;>exact acf _
 ·have cj:=tr (rest:=rest) (main:=false) (b:=b) (a:=a) (k:=k) (cs:=cs) (w:=w) aQ hw hk aF aP qg hb ao he (evs:=#[⟨.cell ⟨s.mu,0,none⟩,false,true⟩])
   (by rw [jw,casT_eq];exact run_cas_miss_entry hc aH aI) (by rw [jw,casT_eq,events_cas_miss_entry hc aH aI];rfl) (sync_r _)
  refine ⟨γ.bB i γ.x _,_,_,_,h,cj,?_,Gd (fun j _=>⟨rfl,rfl⟩) (Nat.le_refl _) (fun e=>absurd rfl e),G1 (fun j _=>rfl) (fun e=>.inl e) (.inl (Nat.le_refl _)),Iv _ rfl,Co γ a8 aI⟩;rw [<- gx,p9];refine G.bB h0 hi k7 oc Al G.ok (fun _ _=>⟨rfl,rfl⟩) (fun e=>(G.cw i e).2) rfl (fun _ _=>rfl) (G.jz k7) (.refl _) (fun e he=> ?_) _ _;simp at he;subst he;exact acf _
end
end
section
open Go.ConcM (OsLater muBlock MuAt muA msA)
theorem UD{P:Program}{b:bn}{a:Act}{ops:Array Oper}{i:Nat}{rest:List Nat}{k:List Item}{cs:List Frame}{o:Oper}{f:FuncId}{fn:Func}{xs:Array Operand}{hU:Array TypeId}
  (aQ:ops[i]? =some o) (aF:o.op=.call {callee:=.value (.func f),args:=xs,argTypes:=hU}) (aP:P.funcs[f]? =some fn) (hb:fn.body.isNone=true):mayWake P (G (b.at a (.inRegion ops (i::rest)::k)) cs)=true:=by
 have dW:fn.body.isSome=false:=by cases aa:fn.body<;>simp_all
 simp [mayWake,G,bn.at,aQ,aF,Frame.eval,aP,dW]
structure lT(i:Nat)(s:ay):Prop where
 pos:0<i
 on:s.on=true
 wk:s.wd i=.wk
 n0:s.n0<=i
 aR:i<s.aR
structure gy(P:Program)(f:FuncId)(fn:Func)(x:Array Value->Sem Value):Prop where
 f:P.funcs[f]? =some fn
 name:(fn.name== "runtime.NumGoroutine")=false
 body:fn.body.isNone=true
 next:Extern.findNext fn=none
 find:Extern.find fn=some x
section
variable{P:Program}{tM tW:TypeId}{os0:eB}{Post:Value->World->Prop}{i:Nat}{s:ay}{h:ab}{K:ay->ab->Value->Prop}{f:FuncId}{fn:Func}{x:Array Value->Sem Value}{args:Array Value}
structure xb(i:Nat)(γ:ay)(x':cK):Prop where
 ok:x'.cu γ.cap
 md:∀j,j≠i->x'.md j=γ.x.md j/\x'.di j=γ.x.di j
 cf:x'.cf γ.cap<=γ.x.cf γ.cap
 word:x'.mu≠γ.x.mu->x'.cf γ.cap<γ.x.cf γ.cap
 cw:γ.cw=some i->x'.md i=.own
 hT:γ.x.md i=.hT->x'.md i=.hT\/0<γ.x.M
theorem xb.refl{γ:ay}(ok:γ.x.cu γ.cap)(cw:γ.cw=some i->γ.x.md i=.own):xb i γ γ.x:=⟨ok,fun _ _=>⟨rfl,rfl⟩,Nat.le_refl _,fun e=>absurd rfl e,cw,.inl⟩
theorem Cp(W:lT i s)(X:gy P f fn x)
  (hs:∀γ w,gW i s γ->(γ.cw=some i->γ.x.md i=.own)->MuAt tM s.mu w γ.x.mu γ.x.M->
   (γ.x.md i=.hT/\γ.x.M=0/\(x args).run P w=.halt .blocked w)\/
   ∃x' v w' evs,(x args).run P w=.ok v w'/\(x args).events P w #[⟨.mark (.extern f),false,true⟩]=#[⟨.mark (.extern f),false,true⟩]++evs/\(∀y∈evs,y.sync=true/\∀g,y.loc≠.mark (.extern g))/\
    xb i γ x'/\w'.heap.size=w.heap.size/\(∀b,b≠s.mu->w'.heap[b]? =w.heap[b]?)/\w'.heap[s.mu]? =some (muBlock tM x'.mu x'.M)/\ni w w'/\(∀e∈evs,(∃o y,e=⟨.cell ⟨s.mu,o,none⟩,y,true⟩)\/e.loc=.mark .disable\/e.loc=.mark .enable)/\
    K (γ.bB i x' evs) h v):
  eX P false ((fC P tM tW os0 Post).hM i) f args s h (K:=⟨K⟩):=by
 refine .inr (.inr fun b o aS b8 hU aF jw=>BG fun a ops j rest k cs hk aA aQ hw γ n dX w t al G hi aG gx=> ?_);subst aA;have cZ:=al.s W.aR aG;have k7:γ.on=true:=cZ.on.trans W.on;have gw:γ.mu=s.mu:=cZ.mu;have dJ:MuAt tM s.mu w γ.x.mu γ.x.M:=by rw [<- gw];exact G.jz k7
 have a8:gW i s γ:=⟨cZ,G.ok,G.iy⟩;obtain ⟨fx,fW,jj⟩:=G.gR k7;have oc:γ.wd i=.wk:=cZ.wd.trans W.wk;have Al:γ.n0<=i:=by rw [cZ.n0];exact W.n0
 have Iv:∀γ':ay,γ'.wd=γ.wd->¬γ'.gone i:=fun γ' e iN=>by have:=iN.2;rw [e,oc] at this;cases this
 rcases hs γ w a8 (fun e=>(G.cw i e).2) dJ with ⟨an,az,aB⟩|⟨x',v,w',evs,c1,c2,c3,c4,c5,c6,dC,eN,ox,c10⟩
 ·refine .inl ⟨?_,Ss (rest:=rest) aQ hw aF X.f X.name X.body X.next X.find (by rw [jw];exact aB)⟩;unfold ay.waits;rw [if_neg (by have:=W.pos;omega)];exact ⟨an,az⟩
 ·right;have cj:=tr (rest:=rest) (main:=false) (b:=b) (a:=a) (k:=k) (cs:=cs) (w:=w) aQ hw hk aF X.f X.name X.body X.next X.find (by rw [jw];exact c1) (by rw [jw];exact c2) c3;refine ⟨γ.bB i x' evs,_,_,_,h,cj,?_,Gd c4.md c4.cf c4.word,G1 (fun j ae=>(c4.md j ae).1) c4.hT (.inr (UD aQ aF X.f X.body)),Iv _ rfl,c10⟩;rw [<- gx,p9];refine G.bB W.pos hi k7 oc Al c4.ok c4.md c4.cw c5 (fun b hb=>c6 b (by rw [<- gw];exact hb)) (by rw [gw];exact dC) eN (fun e he=> ?_) _ _;rcases ox e he with ⟨aO,y,rfl⟩|e'|e'
  ·exact .inr (.inr ⟨_,y,rfl,by show s.mu∈γ.sh;rw [<- gw];exact fx⟩)
  ·exact .inl e'
  ·exact .inr (.inl e')
theorem BV(W:lT i s){m:Mark}(hm:m=.disable\/m=.enable)(X:gy P f fn (fun _=>do mark m;pure Extern.Race.none_))
  (iC:∀γ,gW i s γ->K (γ.bB i γ.x #[⟨.mark m,false,true⟩]) h (.tuple #[])):eX P false ((fC P tM tW os0 Post).hM i) f #[] s h (K:=⟨K⟩):=by
 refine Cp W X fun γ w a8 eD dJ=>.inr ⟨γ.x,.tuple #[],w,#[⟨.mark m,false,true⟩],by simp [Extern.Race.none_],by simp,fun y ax=> ?_,.refl a8.ok eD,rfl,fun _ _=>rfl,dJ,.refl _,fun e he=> ?_,iC γ a8⟩
 ·simp at ax;subst ax;rcases hm with rfl|rfl<;>exact ⟨rfl,fun g h=>by cases h⟩
 ·simp at he;subst he;rcases hm with rfl|rfl
  ·exact .inr (.inl rfl)
  ·exact .inr (.inr rfl)
theorem aqa(W:lT i s)(X:gy P f fn Extern.Sync.semacquire){r:List Value}(aA:args=⟨.pointer (some (msA s.mu))::r⟩)(gd:i<s.cap)(m6:s.x.md i=.hT)
  (iC:∀γ,gW i s γ->0<γ.x.M->K (γ.bB i (γ.x.go i .qz γ.x.L γ.x.K γ.x.S γ.x.W (γ.x.M- 1)) (semEvents (msA s.mu))) h (.tuple #[])):eX P false ((fC P tM tW os0 Post).hM i) f args s h (K:=⟨K⟩):=by
 subst aA;refine Cp W X fun γ w a8 eD dJ=> ?_;have pE:γ.x.md i=.hT:=a8.rel.md.trans m6;have hc:w.cell? (msA s.mu)=some (.int .u32 γ.x.M):=dJ.cellSm;by_cases h0:γ.x.M=0
 ·left;rw [h0] at hc;exact ⟨pE,h0,by simp [Extern.Sync.semacquire,Extern.Sync.count,hc]⟩
 ·right;have aH:w.frozen? (msA s.mu)=false:=dJ.thaw 1;have hj:((γ.x.M:Nat):Int)≠0:=by omega
  obtain ⟨an,az⟩:=cK.ZK a8.ok (by rw [a8.rel.cap];exact gd) pE (by omega);have A:=aside_setCell w (msA s.mu) (.int .u32 ((γ.x.M:Nat)- 1:Int));refine ⟨_,.tuple #[],w.setCell (msA s.mu) (.int .u32 ((γ.x.M:Nat)- 1:Int)),semEvents (msA s.mu),?_,?_,semEvents_sync _,⟨an,fun j ae=>⟨Go.ConcN.upd_ne _ _ ae,rfl⟩,az,fun e=>absurd rfl e,fun e=> ?_,fun _=>.inr (by omega)⟩,A.size,fun b hb=>A.block b hb,?_,ni.of A.os A.output,fun e he=> ?_,iC γ a8 (by omega)⟩
  ·simp [Extern.Sync.semacquire,Extern.Sync.count,hc,h0,aH,Extern.Sync.none_,run_store P w (msA s.mu) (.int .u32 ((γ.x.M:Nat)- 1:Int)) .atomic rfl,Result.andThen]
  ·simp [Extern.Sync.semacquire,Extern.Sync.count,hc,h0,aH,semEvents,events_load,events_store P w _ (msA s.mu) (.int .u32 ((γ.x.M:Nat)- 1:Int)) .atomic rfl,run_store P w (msA s.mu) (.int .u32 ((γ.x.M:Nat)- 1:Int)) .atomic rfl,Result.evThen]
  ·have:=eD e;rw [pE] at this;cases this
  ·have:=dJ.setSm ((γ.x.M:Nat)- 1:Int);have e1:(((γ.x.go i .qz γ.x.L γ.x.K γ.x.S γ.x.W (γ.x.M- 1)).M:Nat):Int)=((γ.x.M:Nat)- 1:Int):=by show ((γ.x.M- 1:Nat):Int)=_;omega
   rw [e1];exact this
  ·simp [semEvents] at he;rcases he with rfl|rfl|rfl|rfl
   ·exact .inr (.inl rfl)
   ·exact .inl ⟨1,_,rfl⟩
   ·exact .inl ⟨1,_,rfl⟩
   ·exact .inr (.inr rfl)
theorem anE(W:lT i s)(X:gy P f fn Extern.Sync.semrelease){r:List Value}(aA:args=⟨.pointer (some (msA s.mu))::r⟩)(gd:i<s.cap)(m6:s.x.md i=.rel)(bY:∀γ,gW i s γ->γ.x.M+1<4294967296)
  (iC:∀γ,gW i s γ->K (γ.bB i (γ.x.go i .out γ.x.L γ.x.K γ.x.S γ.x.W (γ.x.M+1)) (semEvents (msA s.mu))) h (.tuple #[])):eX P false ((fC P tM tW os0 Post).hM i) f args s h (K:=⟨K⟩):=by
 subst aA;refine Cp W X fun γ w a8 eD dJ=>.inr ?_;have pE:γ.x.md i=.rel:=a8.rel.md.trans m6;have hc:w.cell? (msA s.mu)=some (.int .u32 γ.x.M):=dJ.cellSm;have aH:w.frozen? (msA s.mu)=false:=dJ.thaw 1;obtain ⟨an,az⟩:=cK.release a8.ok (by rw [a8.rel.cap];exact gd) pE;have Cd:IntKind.u32.wrap ((γ.x.M:Nat)+1:Int)=((γ.x.M+1:Nat):Int):=by
  have:=bY γ a8;simp only [IntKind.wrap,IntKind.bits,IntKind.signed,Bool.false_and];simp;omega
 have A:=aside_setCell w (msA s.mu) (.int .u32 (IntKind.u32.wrap ((γ.x.M:Nat)+1:Int)));refine ⟨_,.tuple #[],w.setCell (msA s.mu) (.int .u32 (IntKind.u32.wrap ((γ.x.M:Nat)+1:Int))),semEvents (msA s.mu),?_,?_,semEvents_sync _,⟨an,fun j ae=>⟨Go.ConcN.upd_ne _ _ ae,rfl⟩,Nat.le_of_lt az,fun _=>az,fun e=> ?_,fun e=> ?_⟩,A.size,fun b hb=>A.block b hb,?_,ni.of A.os A.output,fun e he=> ?_,iC γ a8⟩
 ·simp [Extern.Sync.semrelease,Extern.Sync.count,hc,aH,Extern.Sync.none_,Op.intArith,run_store P w (msA s.mu) (.int .u32 (IntKind.u32.wrap ((γ.x.M:Nat)+1:Int))) .atomic rfl,Result.andThen]
 ·simp [Extern.Sync.semrelease,Extern.Sync.count,hc,aH,semEvents,Op.intArith,events_load,events_store P w _ (msA s.mu) (.int .u32 (IntKind.u32.wrap ((γ.x.M:Nat)+1:Int))) .atomic rfl,run_store P w (msA s.mu) (.int .u32 (IntKind.u32.wrap ((γ.x.M:Nat)+1:Int))) .atomic rfl,Result.evThen]
 ·have:=eD e;rw [pE] at this;cases this
 ·rw [pE] at e;cases e
 ·have:=dJ.setSm (IntKind.u32.wrap ((γ.x.M:Nat)+1:Int));rw [Cd] at this ⊢;exact this
 ·simp [semEvents] at he;rcases he with rfl|rfl|rfl|rfl
  ·exact .inr (.inl rfl)
  ·exact .inl ⟨1,_,rfl⟩
  ·exact .inl ⟨1,_,rfl⟩
  ·exact .inr (.inr rfl)
theorem X6(W:lT i s)(X:gy P f fn (Extern.Atomic.update (Op.intArith .add) .i32 true)){d:Int}
  (hs:∀γ,gW i s γ->(γ.cw=some i->γ.x.md i=.own)->∃x',xb i γ x'/\x'.M=γ.x.M/\((x'.mu:Nat):Int)=IntKind.i32.wrap ((γ.x.mu:Nat)+d)/\K (γ.bB i x' #[⟨.cell (muA s.mu),false,true⟩,⟨.cell (muA s.mu),true,true⟩]) h (.int .i32 x'.mu)):
  eX P false ((fC P tM tW os0 Post).hM i) f #[.pointer (some (muA s.mu)),.int .i32 d] s h (K:=⟨K⟩):=by
 refine Cp W X fun γ w a8 eD dJ=>.inr ?_;obtain ⟨x',c1,c2,c3,c4⟩:=hs γ a8 eD;have hc:w.cell? (muA s.mu)=some (.int .i32 γ.x.mu):=dJ.cellSt;have aH:w.frozen? (muA s.mu)=false:=dJ.thaw 0;have A:=aside_setCell w (muA s.mu) (.int .i32 (IntKind.i32.wrap ((γ.x.mu:Nat)+d)));refine ⟨x',_,_,#[⟨.cell (muA s.mu),false,true⟩,⟨.cell (muA s.mu),true,true⟩],run_add_entry hc aH,by rw [events_add_entry hc aH];rfl,sync_rw _,c1,A.size,fun b hb=>A.block b hb,?_,ni.of A.os A.output,fun e he=> ?_,by rw [<- c3];exact c4⟩
 ·rw [c2,c3];exact dJ.setSt _
 ·simp at he;rcases he with rfl|rfl<;>exact .inl ⟨0,_,rfl⟩
theorem VM(W:lT i s)(X:gy P f fn x)(hs:∀w:World,∃v w',(x args).run P w=.ok v w'/\(x args).events P w #[⟨.mark (.extern f),false,true⟩]=#[⟨.mark (.extern f),false,true⟩]/\w'.heap=w.heap/\ni w w'/\∀γ,gW i s γ->K (γ.bB i γ.x #[]) h v):
  eX P false ((fC P tM tW os0 Post).hM i) f args s h (K:=⟨K⟩):=by
 refine Cp W X fun γ w a8 eD dJ=>.inr ?_;obtain ⟨v,w',c1,c2,c3,c4,c5⟩:=hs w;exact ⟨γ.x,v,w',#[],c1,by rw [c2];simp,by simp,.refl a8.ok eD,by rw [c3],fun b _=>by rw [c3],by rw [c3];exact dJ,c4,by simp,c5 γ a8⟩
theorem anF(W:lT i s)(X:gy P f fn Extern.Sync.canSpin){k:IntKind}{n:Int}(iC:∀γ c,gW i s γ->(4<=n->c=false)->K (γ.bB i γ.x #[]) h (.bool c)):eX P false ((fC P tM tW os0 Post).hM i) f #[.int k n] s h (K:=⟨K⟩):=by
 refine VM W X fun w=> ?_;by_cases h4:n>=4
 ·exact ⟨.bool false,w,by rw [canSpin_eq,if_pos h4];rfl,by rw [canSpin_eq,if_pos h4];rfl,rfl,.refl _,fun γ a8=>iC γ _ a8 fun _=>rfl⟩
 ·exact ⟨.bool w.spins,w.asked,by rw [canSpin_eq,if_neg h4];rfl,by rw [canSpin_eq,if_neg h4];rfl,rfl,.refl _,fun γ a8=>iC γ _ a8 fun h=>absurd h h4⟩
theorem ahR(W:lT i s)(X:gy P f fn Extern.Sync.nothing)(iC:∀γ,gW i s γ->K (γ.bB i γ.x #[]) h (.tuple #[])):eX P false ((fC P tM tW os0 Post).hM i) f args s h (K:=⟨K⟩):=
 VM W X fun w=>⟨.tuple #[],w,rfl,rfl,rfl,.refl _,iC⟩
end
end
section
open Go.ConcM (OsLater muBlock MuAt muA msA)
section
variable{P:Program}{tM tW:TypeId}{os0:eB}{Post:Value->World->Prop}{i:Nat}{s:ay}{h:ab}{K:ay->ab->Value->Prop}{f:FuncId}{fn:Func}
theorem aqb{γ γ':ay}{hs:Nat->ab}{h':ab}(ao:γ'.n0=γ.n0)(hw:γ'.wd=γ.wd)(hi:γ.wd i=.wk):γ'.eE (cC hs i h')=γ.eE hs:=by
 funext j;unfold ay.eE;rw [ao,hw];by_cases e:j=i
 ·subst e;simp [hi]
 ·rw [gr _ _ e]
theorem VN{γ γ':ay}{n:Nat}{hs:Nat->ab}{h':ab}{w:World}{t:Trace}{e:Event}{fn:FuncId}{pos:String}(G:dh tM tW os0 γ n hs w t)(hi:i<n)(aG:¬γ.gone i)(aE:(MemAct.ofEvent e).touch? =none)(Ql:e.loc≠.mark .disable)(uu:e.loc≠.mark .enable)(avx:∀a,e.loc≠.mark (.release a))
  (a1:γ'.x=γ.x) (a2:γ'.cap=γ.cap) (a3:γ'.aR=γ.aR) (a4:γ'.n0=γ.n0) (a5:γ'.wd=γ.wd) (eK:γ'.ms=γ.ms) (eV:γ'.wv=γ.wv) (fJ:γ'.wr=γ.wr) (a9:γ'.ws=γ.ws) (Iw:γ'.mu=γ.mu) (Qm:γ'.wg=γ.wg) (a12:γ'.on=γ.on) (Qn:γ'.sh=γ.sh) (avy:γ'.bH=γ.bH) (avz:γ'.I=γ.I) (avA:γ'.full=γ.full) (aab:γ'.ib=γ.ib) (avB:γ'.b0=γ.b0) (dF:i<n) (lY:γ.wd i=.wk)
  (Da:fy (cC hs i h') n γ'.gP (· ∈γ.sh) ⟨γ.mu,0,none⟩ γ.bW w (t++MemOp.ofEvents i fn pos #[e])) (eD:∀j,γ'.cw=some j->j<n/\γ.x.md j=.own) (hK:γ.on=true->γ'.cw=none->γ.I γ'.cL γ'.bk/\γ'.bk.kR) (qG:∀j,j≠i->γ'.cL j=γ.cL j):
  dh tM tW os0 γ' n (cC hs i h') w (t++MemOp.ofEvents i fn pos #[e]):=by
 have AP:γ'.bW=γ.bW:=by funext j;simp only [ay.bW,a3,a4]
 have xY:∀f,γ'.dI f=γ.dI f:=fun f=>by simp only [ay.dI,a3,a4,a5]
 have aqc:∀j,γ'.gone j↔γ.gone j:=fun j=>by unfold ay.gone;rw [a5]
 have b7:∀e'∈#[e],(MemAct.ofEvent e').touch? =none:=fun e' he=>by simp at he;subst he;exact aE
 exact {
  aR:=a3.trans G.aR
  pos:=G.pos
  n0:=by rw [a4];exact G.n0
  hi:=by rw [Qn,Iw,AP];exact Da
  ji:=by
   rw [Qm,aqb a4 a5 lY];refine G.ji.app (g:=i) (fun op aF=>tx aF) (fun op aF h=> ?_) fun _ _=>Kf b7;rw [ofEvents_eq] at aF;obtain ⟨e',he,rfl⟩:=Array.mem_map.1 aF;simp at he;subst he;exact avx _ (Go.ConcR.loc_of_ofEvent h)
  bH:=fun j ae kX=>by
   rw [avy];have Am:¬γ.gone j:=fun h=>kX ((aqc j).2 h);by_cases ec:j=i
   ·subst ec;rw [Deaf_own,deafBehind_still (fun e' he=>by simp at he;subst he;exact ⟨Ql,uu⟩)];exact G.bH j ae Am
   ·rw [Deaf_other t (g':=i) (fun e=>ec e.symm) _ (fun op aF=>tx aF)];exact G.bH j ae Am
  old:=by rw [a4,a5];exact G.old
  jz:=fun aQ=>by rw [a12] at aQ;rw [Iw,a1];exact G.jz aQ
  jd:=fun aQ=>by rw [a12] at aQ;rw [Qm,eV,fJ,a9];exact G.jd aQ
  gR:=fun aQ=>by rw [a12] at aQ;rw [Iw,Qm,Qn];exact G.gR aQ
  ok:=by rw [a1,a2];exact G.ok
  cap:=by rw [a2];exact G.cap
  out:=by rw [a1,a5];exact G.out
  cw:=by rw [a1];exact eD
  ll:=fun aQ h=>by rw [a12] at aQ;rw [avz];exact hK aQ h
  full:=fun j h1 h2 h3=>by
   rw [a5] at h3;rw [avA,qG j (fun e'=>by subst e';exact h3 lY)];exact G.full j (by rw [<- a4];exact h1) h2 h3
  hl:=by
   have v:=G.hl.v;have st:=G.hl.st;exact ⟨by rw [eV,xY,eK];exact v,by rw [eK,fJ,a9,eV,xY,xY];exact st⟩
  eF:=fun j h0 ae=>by
   rw [a5] at ae;have ec:j≠i:=fun e'=>by subst e';rw [lY] at ae;cases ae
   rw [gr _ _ ec];exact G.eF j h0 ae
  os:=G.os
  jZ:=fun h=>by rw [aab] at h;rw [Iw,Qn,a1];exact G.jZ h
  j0:=fun h=>by rw [a12] at h;rw [aab];exact G.j0 h
  ku:=fun j h1 h2=>by rw [a2] at h2;rw [a1,avB,qG j (by omega)];exact G.ku j h1 h2}
theorem anG(W:lT i s)(X:gy P f fn (Extern.Race.marked .acquire)){r:List Value}{args:Array Value}(aA:args=⟨.pointer (some (muA s.mu))::r⟩)(gd:i<s.cap)(m6:s.x.md i=.own)(m3:s.bH i=0)(eD:s.cw≠some i)
  (iC:∀γ,gW i s γ->γ.I γ.cL γ.bk->γ.bk.kR->γ.bH i=0->(∀b x,γ.bk b=some x->h b=none)->K {γ with cw:=some i} (h.add γ.bk) (.tuple #[])):eX P false ((fC P tM tW os0 Post).hM i) f args s h (K:=⟨K⟩):=by
 subst aA;refine .inr (.inr fun b o aS b8 hU aF jw=>BG fun a ops j rest k cs hk aA aQ hw γ n dX w t al G hi aG gx=>.inr ?_);subst aA;have cZ:=al.s W.aR aG;have k7:γ.on=true:=cZ.on.trans W.on;have gw:γ.mu=s.mu:=cZ.mu;have a8:gW i s γ:=⟨cZ,G.ok,G.iy⟩;obtain ⟨fx,fW,jj⟩:=G.gR k7;have oc:γ.wd i=.wk:=cZ.wd.trans W.wk;have pE:γ.x.md i=.own:=cZ.md.trans m6;have Cq:γ.bH i=0:=cZ.bH.trans m3;have xG:γ.cw=none:=by
  cases aE:γ.cw with
  | none=>rfl
  | some q=>
   obtain ⟨an,az⟩:=G.cw q aE;have:i=q:=cK.owner G.ok (Nat.lt_of_lt_of_le hi G.cap) (Nat.lt_of_lt_of_le an G.cap) pE az;subst this;exact absurd (cZ.cw.1 aE) eD
 obtain ⟨g1,g2⟩:=G.ll k7 xG;have cj:=tr (rest:=rest) (main:=false) (b:=b) (a:=a) (k:=k) (cs:=cs) (w:=w) (v:=.tuple #[]) (w':=w) (evs:=#[⟨.mark (.acquire (muA s.mu)),false,true⟩]) aQ hw hk aF X.f X.name X.body X.next X.find
  (by rw [jw];simp [Extern.Race.marked,Extern.Race.at_,Extern.Race.none_]) (by rw [jw];simp [Extern.Race.marked,Extern.Race.at_]) (by
   intro y ax;simp at ax;subst ax;exact ⟨rfl,fun g h=>by cases h⟩)
 have qH:γ.gP=γ.bk:=by unfold ay.gP;rw [if_pos ⟨k7,xG⟩]
 have Qo:∀b x,γ.bk b=some x->h b=none:=fun b x hb=>by
  cases hh:h b with
  | none=>rfl
  | some y=>
   exfalso;have hd:ek γ.gP b:=by rw [qH];exact ⟨x,hb⟩
   rcases tp (hs:=dX) (j:=i) (b:=b) (x:=y) (by rw [gx];exact hh) with q|q
   ·exact G.hi.ex.nA i b q hd
   ·exact G.hi.ex.rf i b q hd
 have Ow:∀(fnn:FuncId) (pos:String),MemOp.ofEvents i fnn pos #[⟨.mark (.acquire (muA s.mu)),false,true⟩]=#[{g:=i,fn:=fnn,pos,act:=.mark (.acquire ⟨γ.mu,0,none⟩)}]:=fun fnn pos=>by
  rw [ofEvents_eq,gw];simp [MemAct.ofEvent,muA]
 refine ⟨{γ with cw:=some i},_,_,_,h.add γ.bk,cj,?_,fun j ae=>⟨.inr (.inr ⟨Nat.le_refl _,rfl,rfl,rfl,rfl,rfl,rfl,rfl,rfl,rfl,rfl,rfl,⟨fun e=>absurd (Option.some.inj e).symm ae,fun e=>by rw [xG] at e;cases e⟩,rfl,Nat.le_refl _,fun e=>absurd rfl e,fun _=>rfl,fun _=>⟨rfl,rfl,rfl,Nat.le_refl _,fun _=>⟨rfl,rfl⟩⟩,rfl,rfl⟩),Iff.rfl⟩,fun j h1 h2=>absurd h1 h2,(fun iN=>by have:=iN.2;rw [oc] at this;cases this),iC γ a8 g1 g2 Cq Qo⟩;have Qp:Deaf t i=0:=(G.bH i hi aG).trans Cq;have Da:=fy.acquire (z:= {g:=i,fn:=(Conc.G (b.at a (.inRegion ops (j::rest)::k)) cs).frame.fn,pos:=(Conc.G (b.at a (.inRegion ops (j::rest)::k)) cs).frame.place,act:=.mark (.acquire ⟨γ.mu,0,none⟩)}) (by rw [<- qH];exact G.hi) g2 hi rfl Qp (show γ.bW i from Or.inr ⟨by rw [cZ.n0];exact W.n0,by rw [G.aR];exact hi⟩) (G.hi.low _ fx);refine VN (γ':= {γ with cw:=some i}) G hi aG (e:=⟨.mark (.acquire (muA s.mu)),false,true⟩) (by simp [MemAct.ofEvent,MemAct.touch?]) (fun h=>by cases h) (fun h=>by cases h) (fun a h=>by cases h) rfl rfl rfl rfl rfl rfl rfl rfl rfl rfl rfl rfl rfl rfl rfl rfl rfl rfl hi oc ?_ (fun j ae=> ?_) (fun _ h=>by cases h) (fun j ae=>rfl)
 ·have e0:(t++opsOf i (Conc.G (b.at a (.inRegion ops (j::rest)::k)) cs) #[⟨.mark (.acquire (muA s.mu)),false,true⟩])=t++#[{g:=i,fn:=(Conc.G (b.at a (.inRegion ops (j::rest)::k)) cs).frame.fn,pos:=(Conc.G (b.at a (.inRegion ops (j::rest)::k)) cs).frame.place,act:=.mark (.acquire ⟨γ.mu,0,none⟩)}]:=by
   show t++MemOp.ofEvents _ _ _ _=_;rw [Ow]
  have e1:({γ with cw:=some i}:ay).gP=ab.empty:=by unfold ay.gP;simp
  rw [e1,e0,<- gx];exact Da
 ·have ae:some i=some j:=ae;cases ae;exact ⟨hi,pE⟩
theorem anH(W:lT i s)(X:gy P f fn (Extern.Race.marked .releaseMerge)){r:List Value}{args:Array Value}(aA:args=⟨.pointer (some (muA s.mu))::r⟩)(m3:s.bH i=0)(eD:s.cw=some i)(gd':ab)
  (bU:∀γ,gW i s γ->∃mg',(∀j,j≠i->mg' j=γ.cL j)/\γ.I mg' gd'/\(γ.bH i=0->K {γ with cw:=none,bk:=gd',cL:=mg'} (h.del gd') (.tuple #[]))) (hK:∀b x,gd' b=some x->h b=some x) (hgo:gd'.kR):eX P false ((fC P tM tW os0 Post).hM i) f args s h (K:=⟨K⟩):=by
 subst aA;refine .inr (.inr fun b o aS b8 hU aF jw=>BG fun a ops j rest k cs hk aA aQ hw γ n dX w t al G hi aG gx=>.inr ?_);subst aA;have cZ:=al.s W.aR aG;have k7:γ.on=true:=cZ.on.trans W.on;have gw:γ.mu=s.mu:=cZ.mu;have a8:gW i s γ:=⟨cZ,G.ok,G.iy⟩;obtain ⟨fx,fW,jj⟩:=G.gR k7;have oc:γ.wd i=.wk:=cZ.wd.trans W.wk;have Cq:γ.bH i=0:=cZ.bH.trans m3;have xG:γ.cw=some i:=cZ.cw.2 eD;obtain ⟨mg',k1,bX,eL⟩:=bU γ a8;have cj:=tr (rest:=rest) (main:=false) (b:=b) (a:=a) (k:=k) (cs:=cs) (w:=w) (v:=.tuple #[]) (w':=w) (evs:=#[⟨.mark (.releaseMerge (muA s.mu)),false,true⟩]) aQ hw hk aF X.f X.name X.body X.next X.find
  (by rw [jw];simp [Extern.Race.marked,Extern.Race.at_,Extern.Race.none_]) (by rw [jw];simp [Extern.Race.marked,Extern.Race.at_]) (by
   intro y ax;simp at ax;subst ax;exact ⟨rfl,fun g h=>by cases h⟩)
 have qH:γ.gP=ab.empty:=by unfold ay.gP;rw [xG];simp
 have Ow:∀(fnn:FuncId) (pos:String),MemOp.ofEvents i fnn pos #[⟨.mark (.releaseMerge (muA s.mu)),false,true⟩]=#[{g:=i,fn:=fnn,pos,act:=.mark (.releaseMerge ⟨γ.mu,0,none⟩)}]:=fun fnn pos=>by
  rw [ofEvents_eq,gw];simp [MemAct.ofEvent,muA]
 refine ⟨{γ with cw:=none,bk:=gd',cL:=mg'},_,_,_,h.del gd',cj,?_,fun j ae=>⟨.inr (.inr ⟨Nat.le_refl _,rfl,rfl,rfl,rfl,rfl,rfl,rfl,rfl,rfl,rfl,rfl,⟨(fun e=>by cases e),(fun e=>by rw [xG] at e;exact absurd (Option.some.inj e).symm ae)⟩,k1 j ae,Nat.le_refl _,fun e=>absurd rfl e,(fun e=>by rw [xG] at e;exact absurd (Option.some.inj e).symm ae),fun _=>⟨rfl,rfl,rfl,Nat.le_refl _,fun _=>⟨rfl,rfl⟩⟩,rfl,rfl⟩),Iff.rfl⟩,fun j h1 h2=>absurd h1 h2,(fun iN=>by have:=iN.2;rw [oc] at this;cases this),eL Cq⟩;have Qp:Deaf t i=0:=(G.bH i hi aG).trans Cq;have Da:=fy.release (y:= {g:=i,fn:=(Conc.G (b.at a (.inRegion ops (j::rest)::k)) cs).frame.fn,pos:=(Conc.G (b.at a (.inRegion ops (j::rest)::k)) cs).frame.place,act:=.mark (.releaseMerge ⟨γ.mu,0,none⟩)}) (by rw [<- qH];exact G.hi) hi rfl Qp (G.hi.low _ fx) (by rw [gx];exact hK) hgo;refine VN (γ':= {γ with cw:=none,bk:=gd',cL:=mg'}) G hi aG (e:=⟨.mark (.releaseMerge (muA s.mu)),false,true⟩) (by simp [MemAct.ofEvent,MemAct.touch?]) (fun h=>by cases h) (fun h=>by cases h) (fun a h=>by cases h) rfl rfl rfl rfl rfl rfl rfl rfl rfl rfl rfl rfl rfl rfl rfl rfl rfl rfl hi oc ?_ (fun j ae=>by cases ae) (fun _ _=>⟨bX,hgo⟩) k1;have e0:(t++opsOf i (Conc.G (b.at a (.inRegion ops (j::rest)::k)) cs) #[⟨.mark (.releaseMerge (muA s.mu)),false,true⟩])=t++#[{g:=i,fn:=(Conc.G (b.at a (.inRegion ops (j::rest)::k)) cs).frame.fn,pos:=(Conc.G (b.at a (.inRegion ops (j::rest)::k)) cs).frame.place,act:=.mark (.releaseMerge ⟨γ.mu,0,none⟩)}]:=by
  show t++MemOp.ofEvents _ _ _ _=_;rw [Ow]
 have e1:({γ with cw:=none,bk:=gd',cL:=mg'}:ay).gP=gd':=by unfold ay.gP;simp [k7]
 rw [e1,e0,<- gx];exact Da
end
end
section
open Go.ConcM (OsLater muBlock MuAt muA msA)
section
variable{P:Program}{tM tW:TypeId}{os0:eB}{Post:Value->World->Prop}{i:Nat}{s:ay}{h:ab}{K:ay->ab->Value->Prop}{f:FuncId}{fn:Func}{x:Array Value->Sem Value}{args:Array Value}
theorem Ls(W:lT i s){b:bn}{o:Oper}{aS:Operand->Value}
  (hs:∀(a:Act) (ops:Array Oper) (j:Nat) (rest:List Nat) (k:List Item) (cs:List Frame),b.kind≠.early->a.eval=aS->ops[j]? =some o->Region.wanted o (yielded ops a.tmps)=true->∀γ w,gW i s γ->(γ.cw=some i->γ.x.md i=.own)->MuAt tM s.mu w γ.x.mu γ.x.M->
   ∃x' v w' evs,stepG P false (Conc.G (b.at a (.inRegion ops (j::rest)::k)) cs) w=.go (Conc.G (b.at (a.put o.dst v) (.inRegion ops rest::k)) cs) w' evs/\
    xb i γ x'/\x'.M<=γ.x.M/\w'.heap.size=w.heap.size/\(∀b,b≠s.mu->w'.heap[b]? =w.heap[b]?)/\w'.heap[s.mu]? =some (muBlock tM x'.mu x'.M)/\ni w w'/\(∀e∈evs,(∃o y,e=⟨.cell ⟨s.mu,o,none⟩,y,true⟩)\/e.loc=.mark .disable\/e.loc=.mark .enable)/\K (γ.bB i x' evs) h v):
  lJ P false ((fC P tM tW os0 Post).hM i) b o aS s h K:=by
 refine BG fun a ops j rest k cs hk aA aQ hw γ n dX w t al G hi aG gx=>.inr ?_;have cZ:=al.s W.aR aG;have k7:γ.on=true:=cZ.on.trans W.on;have gw:γ.mu=s.mu:=cZ.mu;have dJ:MuAt tM s.mu w γ.x.mu γ.x.M:=by rw [<- gw];exact G.jz k7
 have a8:gW i s γ:=⟨cZ,G.ok,G.iy⟩;obtain ⟨fx,fW,jj⟩:=G.gR k7;have oc:γ.wd i=.wk:=cZ.wd.trans W.wk;have Al:γ.n0<=i:=by rw [cZ.n0];exact W.n0
 obtain ⟨x',v,w',evs,cj,c4,ay1,c5,c6,dC,eN,ox,c10⟩:=hs a ops j rest k cs hk aA aQ hw γ w a8 (fun e=>(G.cw i e).2) dJ;refine ⟨γ.bB i x' evs,_,_,_,h,cj,?_,Gd c4.md c4.cf c4.word,G1 (fun j ae=>(c4.md j ae).1) c4.hT (.inl ay1),(fun iN=>by have:γ.wd i=.eF:=iN.2;rw [oc] at this;cases this),c10⟩;rw [<- gx,p9];refine G.bB W.pos hi k7 oc Al c4.ok c4.md c4.cw c5 (fun b hb=>c6 b (by rw [<- gw];exact hb)) (by rw [gw];exact dC) eN (fun e he=> ?_) _ _;rcases ox e he with ⟨aO,y,rfl⟩|e'|e'
 ·exact .inr (.inr ⟨_,y,rfl,by show s.mu∈γ.sh;rw [<- gw];exact fx⟩)
 ·exact .inl e'
 ·exact .inr (.inl e')
theorem W9(W:lT i s)(X:gy P f fn Extern.OsHooks.nano)(aE:fn.norace=true)(iC:∀γ n,gW i s γ->K (γ.bB i γ.x #[]) h (.int .i64 n)):eX P false ((fC P tM tW os0 Post).hM i) f args s h (K:=⟨K⟩):=by
 refine .inr (.inr fun b o aS b8 hU aF jw=>Ls W fun a ops j rest k cs hk aA aQ hw γ w a8 eD dJ=> ?_);subst aA;have e1:=execOp_call_func (a:=a) aF;have qo:(Extern.OsHooks.nano (b8.map a.eval)).run P w=.ok (.int .i64 ((w.os.mono+w.tick:Nat):Int)) w.later:=rfl;have al:(execOp a.eval o).runT P w #[]=(.ok (.value (.int .i64 ((w.os.mono+w.tick:Nat):Int))) w.later,#[⟨.mark (.extern f),false,true⟩]++#[⟨.output,true,false⟩]):=by
  rw [u6,e1,run_callFunc_extern X.f X.name X.body X.next X.find,qo,events_callFunc_extern X.f X.name X.body X.next X.find];rfl
 have cj:=tq (P:=P) (main:=false) (rest:=rest) (k:=k) (cs:=cs) aQ hw (Lr aF) hk al rfl;rw [seen_entry_out _ _ (by rw [X.f];exact aE)] at cj;exact ⟨γ.x,_,w.later,#[],cj,.refl a8.ok eD,Nat.le_refl _,rfl,fun _ _=>rfl,dJ,⟨⟨w.tick,rfl⟩,rfl⟩,by simp,iC γ _ a8⟩
theorem aqd(W:lT i s){b:bn}{t:TypeId}{k0:IntKind}(aj:P.underlying t=some (.int k0))(aE:(P.funcs[b.fn]?).any (·.norace)=true)(hh:h s.mu=none)
  (hs:∀γ,gW i s γ->(γ.cw=some i->γ.x.md i=.own)->∃x',xb i γ x'/\x'.M=γ.x.M/\x'.mu=γ.x.mu/\K (γ.bB i x' #[]) h (.int .i32 γ.x.mu)):
  fa P false ((fC P tM tW os0 Post).hM i) b t (.pointer (some (muA s.mu))) s h (K:=⟨K⟩):=by
 show if (h s.mu).isSome=true then _ else _
 rw [hh,if_neg (by simp)];intro o aS y aF iO;refine Ls W fun a ops j rest k cs hk aA aQ hw γ w a8 eD dJ=> ?_;subst aA;obtain ⟨x',c1,c2,c3,c4⟩:=hs γ a8 eD;have hc:w.cell? (muA s.mu)=some (.int .i32 γ.x.mu):=dJ.cellSt;have al:(execOp a.eval o).runT P w #[]=(.ok (.value (.int .i32 γ.x.mu)) w,#[⟨.cell (muA s.mu),false,false⟩]):=by
  rw [u6];have e1:execOp a.eval o=(do pure (.value (<- Instr.loadAt t (.pointer (some (muA s.mu))))):Sem Next):=by
   unfold execOp;rw [aF,<- iO]
  rw [e1];refine Prod.ext ?_ ?_
  ·simp [Instr.loadAt,Instr.sureAddr,loadVar,isAgg,run_underlying aj,hc,Result.andThen]
  ·simp [Instr.loadAt,Instr.sureAddr,loadVar,isAgg,run_underlying aj,hc,Result.evThen]
 have cj:=tq (P:=P) (main:=false) (rest:=rest) (k:=k) (cs:=cs) aQ hw (by unfold lE;rw [aF]) hk al rfl;have avC:seen P b.fn #[⟨.cell (muA s.mu),false,false⟩]=#[]:=by
  unfold seen;simp [aE]
 rw [avC] at cj;exact ⟨x',_,w,#[],cj,c1,by omega,rfl,fun _ _=>rfl,by rw [c3,c2];exact dJ,.refl _,by simp,c4⟩
end
end
noncomputable def Ge:Code:=Tryz.f143.body.getD .skip
def Gf:Code:=bC Ge
def Xa:Code:=bC Gf
def ahS:=aT Xa (.region _ [_,_].toArray _) rfl
def MW:Code:=b1 Gf
def MX:Code:=bC MW
def MY:Code:=b1 MX
def MZ:Code:=b1 MY
def M0:Code:=b1 MZ
def Xb:Code:=bC M0
def ahT:=aT Xb (.region _ [_,_,_].toArray _) rfl
def ahU:=aT M0 (.seq (.region _ [_].toArray _) Xb) rfl
def ahV:=aT MZ (.cond _ M0 .skip) rfl
def ahW:=aT MY (.seq MZ .ret) rfl
def UE:=aT MX (.cond _ MY .skip) rfl
def UF:=aT MW (.seq (.region _ [_,_,_,_].toArray _) MX) rfl
def UG:=aT Gf (.seq MW Xa) rfl
def UH:=aT Ge (.seq (.region _ [_].toArray _) Gf) rfl
theorem ae8:Tryz.f143.body=some Ge:=by kernel_rfl
theorem akY:ga 13 Ge=true:=by kernel_rfl
noncomputable def Gg:Code:=Tryz.f172.body.getD .skip
def M1:Code:=bC Gg
def M3:Code:=bC M1
def M4:Code:=bC M3
def M5:Code:=bC M4
def Gh:Code:=bC M5
def Gi:Code:=bC Gh
def M6:Code:=b1 Gi
def Xc:Code:=bC M6
def ahX:=aT Xc (.region _ [_,_,_].toArray _) rfl
def ahY:=aT M6 (.seq (.region _ [_].toArray _) Xc) rfl
def ahZ:=aT Gi (.cond _ M6 .skip) rfl
def M7:Code:=b1 Gh
def Lt:Code:=b1 M7
def Fu:Code:=b1 Lt
def Fv:Code:=b1 Fu
def BH:Code:=bC Fv
def BI:Code:=bC BH
def zo:Code:=bC BI
def zp:Code:=bC zo
def zq:Code:=bC zp
def zr:Code:=bC zq
def Fw:Code:=bC zr
def Fx:Code:=b1 Fw
def Fy:Code:=bC Fx
def Fz:Code:=bC Fy
def FA:Code:=bC Fz
def Lu:Code:=bC FA
def FB:Code:=bC Lu
def FC:Code:=bC FB
def Lv:Code:=bC FC
def VO:Code:=bC Lv
def ae9:=aT VO (.region _ [_].toArray _) rfl
def afa:=aT Lv (.seq (.region _ [_].toArray _) VO) rfl
def Lw:Code:=b1 FC
def Lx:Code:=bC Lw
def FD:Code:=b1 Lx
def Ly:Code:=bC FD
def FE:Code:=bC Ly
def Lz:Code:=bC FE
def afb:=aT Lz (.seq (.region _ [_,_,_,_,_].toArray _) (.exit 0)) rfl
def LA:Code:=b1 FE
def LB:Code:=bC LA
def VP:Code:=b1 LB
def Kg:=aT VP (.region _ [_,_,_].toArray _) rfl
def Kh:=aT LB (.cond _ VP .skip) rfl
def TI:=aT LA (.seq (.region _ [_,_,_,_,_,_,_].toArray _) LB) rfl
def afc:=aT FE (.seq LA Lz) rfl
def afd:=aT Ly (.seq (.region _ [_].toArray _) FE) rfl
def LC:Code:=b1 FD
def LD:Code:=bC LC
def akZ:Code:=b1 LD
def afe:=aT LD (.cond _ akZ .skip) rfl
def aff:=aT LC (.seq (.region _ [_,_,_,_,_,_,_,_].toArray _) LD) rfl
def afg:=aT FD (.seq LC Ly) rfl
def TJ:=aT Lx (.cond _ FD .skip) rfl
def TK:=aT Lw (.seq (.region _ [_,_,_].toArray _) Lx) rfl
def TL:=aT FC (.seq Lw Lv) rfl
def TM:=aT FB (.seq (.region _ [_,_,_,_,_].toArray _) FC) rfl
def Ki:=aT Lu (.seq (.region _ [_,_,_,_,_,_,_,_].toArray _) FB) rfl
def afh:=aT FA (.seq (.region _ [_,_,_,_,_].toArray _) Lu) rfl
def LF:Code:=b1 Fz
def LG:Code:=bC LF
def VQ:Code:=b1 LG
def TN:=aT VQ (.region _ [_,_].toArray _) rfl
def afi:=aT LG (.cond _ VQ .skip) rfl
def afj:=aT LF (.seq (.region _ [_,_].toArray _) LG) rfl
def afk:=aT Fz (.seq LF FA) rfl
def afl:=aT Fy (.seq (.region _ [_,_,_].toArray _) Fz) rfl
def LH:Code:=b1 Fx
def VR:Code:=bC LH
def TO:=aT VR (.cond _ (.exit 0) .skip) rfl
def TP:=aT LH (.seq (.region _ [_,_,_].toArray _) VR) rfl
def TQ:=aT Fx (.seq LH Fy) rfl
def VS:Code:=bC Fw
def afm:=aT VS (.region _ [_,_,_,_,_].toArray _) rfl
def Kj:=aT Fw (.cond _ Fx VS) rfl
def afn:=aT zr (.seq (.region _ [_,_,_,_,_,_].toArray _) Fw) rfl
def LI:Code:=b1 zq
def LJ:Code:=bC LI
def FF:Code:=b1 LJ
def VT:Code:=bC FF
def afo:=aT VT (.region _ [_,_,_].toArray _) rfl
def LK:Code:=b1 FF
def LL:Code:=bC LK
def ak0:Code:=b1 LL
def afp:=aT LL (.cond _ ak0 .skip) rfl
def afq:=aT LK (.seq (.region _ [_,_,_].toArray _) LL) rfl
def afr:=aT FF (.seq LK VT) rfl
def TR:=aT LJ (.cond _ FF .skip) rfl
def TS:=aT LI (.seq (.region _ [_].toArray _) LJ) rfl
def TT:=aT zq (.seq LI zr) rfl
def LM:Code:=b1 zp
def LN:Code:=bC LM
def VU:Code:=b1 LN
def afs:=aT VU (.region _ [_,_,_].toArray _) rfl
def aft:=aT LN (.cond _ VU .skip) rfl
def afu:=aT LM (.seq (.region _ [_,_,_,_,_,_].toArray _) LN) rfl
def afv:=aT zp (.seq LM zq) rfl
def LO:Code:=b1 zo
def LP:Code:=bC LO
def VV:Code:=b1 LP
def afw:=aT VV (.region _ [_,_,_].toArray _) rfl
def afx:=aT LP (.cond _ VV .skip) rfl
def afy:=aT LO (.seq (.region _ [_,_,_].toArray _) LP) rfl
def afz:=aT zo (.seq LO zp) rfl
def LQ:Code:=b1 BI
def LR:Code:=bC LQ
def VW:Code:=b1 LR
def afA:=aT VW (.region _ [_,_,_].toArray _) rfl
def afB:=aT LR (.cond _ VW .skip) rfl
def afC:=aT LQ (.seq (.region _ [_,_,_].toArray _) LR) rfl
def afD:=aT BI (.seq LQ zo) rfl
def afE:=aT BH (.seq (.region _ [_,_].toArray _) BI) rfl
def LS:Code:=b1 Fv
def LU:Code:=bC LS
def BJ:Code:=b1 LU
def BK:Code:=bC BJ
def LV:Code:=bC BK
def VX:Code:=bC LV
def afF:=aT VX (.seq (.region _ [_,_,_,_,_].toArray _) (.exit 1)) rfl
def afG:=aT LV (.seq (.region _ [_,_,_].toArray _) VX) rfl
def afH:=aT BK (.seq (.region _ [_].toArray _) LV) rfl
def LW:Code:=b1 BJ
def LX:Code:=bC LW
def VY:Code:=b1 LX
def TU:=aT VY (.region _ [_].toArray _) rfl
def y2:=aT LX (.cond _ VY .skip) rfl
def y5:=aT LW (.seq (.region _ [_,_,_,_,_,_,_,_,_,_,_,_,_,_,_,_,_,_,_,_,_].toArray _) LX) rfl
def EJ:=aT BJ (.seq LW BK) rfl
def EK:=aT LU (.cond _ BJ .skip) rfl
def EL:=aT LS (.seq (.region _ [_,_,_,_,_,_,_].toArray _) LU) rfl
def TV:=aT Fv (.seq LS BH) rfl
def TW:=aT Fu (.block _ Fv) rfl
def afI:=aT Lt (.loop Fu) rfl
def ah0:=aT M7 (.block _ Lt) rfl
def ah1:=aT Gh (.seq M7 Gi) rfl
def ah2:=aT M5 (.seq (.region _ [_,_,_,_,_].toArray _) Gh) rfl
def ah3:=aT M4 (.seq (.region _ [_].toArray _) M5) rfl
def ah4:=aT M3 (.seq (.region _ [_].toArray _) M4) rfl
def ah5:=aT M1 (.seq (.region _ [_].toArray _) M3) rfl
def ah6:=aT Gg (.seq (.region _ [_].toArray _) M1) rfl
theorem afJ:Tryz.f172.body=some Gg:=by kernel_rfl
theorem ak1:ga 139 Gg=true:=by kernel_rfl
noncomputable def BW:Code:=Tryz.f147.body.getD .skip
def M8:Code:=bC BW
def BX:Code:=bC M8
def M9:Code:=bC BX
def ah7:=aT M9 (.region _ [_].toArray _) rfl
def Na:Code:=b1 BX
def Nb:Code:=bC Na
def Xd:Code:=b1 Nb
def ah8:=aT Xd (.region _ [_,_,_].toArray _) rfl
def UI:=aT Nb (.cond _ Xd .skip) rfl
def UJ:=aT Na (.seq (.region _ [_,_].toArray _) Nb) rfl
def UK:=aT BX (.seq Na M9) rfl
def ah9:=aT M8 (.seq (.region _ [_,_,_,_,_].toArray _) BX) rfl
def Nc:Code:=b1 BW
def Nd:Code:=b1 Nc
def Nf:Code:=bC Nd
def VZ:Code:=bC Nf
def afK:=aT VZ (.region _ [_].toArray _) rfl
def aia:=aT Nf (.seq (.region _ [_,_,_].toArray _) VZ) rfl
def aib:=aT Nd (.seq (.region _ [_,_,_,_].toArray _) Nf) rfl
def aic:=aT Nc (.cond _ Nd .skip) rfl
def aid:=aT BW (.seq Nc M8) rfl
theorem afL:Tryz.f147.body=some BW:=by kernel_rfl
theorem ak2:ga 21 BW=true:=by kernel_rfl
noncomputable def BY:Code:=Tryz.f174.body.getD .skip
def Ng:Code:=bC BY
def Gj:Code:=bC Ng
def Nh:Code:=b1 Gj
def Gk:Code:=bC Nh
def Ni:Code:=b1 Gk
def Gl:Code:=b1 Ni
def Gm:Code:=b1 Gl
def Nj:Code:=bC Gm
def Gn:Code:=bC Nj
def V0:Code:=bC Gn
def afM:=aT V0 (.region _ [_,_,_,_,_].toArray _) rfl
def LY:Code:=b1 Gn
def LZ:Code:=bC LY
def V1:Code:=b1 LZ
def afN:=aT V1 (.seq (.region _ [_,_,_,_].toArray _) .ret) rfl
def TX:=aT LZ (.cond _ V1 .skip) rfl
def Kk:=aT LY (.seq (.region _ [_,_,_,_,_,_].toArray _) LZ) rfl
def aie:=aT Gn (.seq LY V0) rfl
def aif:=aT Nj (.seq (.region _ [_,_,_,_].toArray _) Gn) rfl
def L0:Code:=b1 Gm
def V2:Code:=bC L0
def Kl:=aT V2 (.cond _ .ret .skip) rfl
def Km:=aT L0 (.seq (.region _ [_,_,_,_,_,_,_,_].toArray _) V2) rfl
def KM:=aT Gm (.seq L0 Nj) rfl
def KN:=aT Gl (.block _ Gm) rfl
def aih:=aT Ni (.loop Gl) rfl
def aii:=aT Gk (.block _ Ni) rfl
def aij:=aT Nh (.seq (.region _ [_,_].toArray _) Gk) rfl
def V3:Code:=bC Gj
def afO:=aT V3 (.region _ [_,_,_,_].toArray _) rfl
def UL:=aT Gj (.cond _ Nh V3) rfl
def UM:=aT Ng (.seq (.region _ [_,_,_].toArray _) Gj) rfl
def L1:Code:=b1 BY
def L2:Code:=bC L1
def ak3:Code:=b1 L2
def TY:=aT L2 (.cond _ ak3 .skip) rfl
def TZ:=aT L1 (.seq (.region _ [_,_,_,_].toArray _) L2) rfl
def UN:=aT BY (.seq L1 Ng) rfl
theorem afP:Tryz.f174.body=some BY:=by kernel_rfl
theorem ak4:ga 43 BY=true:=by kernel_rfl
section
open Go.ConcM (OsLater muBlock MuAt muA msA)
theorem YV(a b c d:Nat)(hc:c<8)(hd:d<8):(8*a+c) &&& (8*b+d)=8*(a &&& b)+(c &&& d):=by
 have Qq:c &&& d<2^3:=Nat.and_lt_two_pow c (by simpa using hd);apply Nat.eq_of_testBit_eq;intro j;have e1:=Nat.testBit_two_pow_mul_add (i:=3) a (b:=c) (by simpa using hc) j;have e2:=Nat.testBit_two_pow_mul_add (i:=3) b (b:=d) (by simpa using hd) j;have e3:=Nat.testBit_two_pow_mul_add (i:=3) (a &&& b) Qq j;simp only [Nat.reducePow] at e1 e2 e3;rw [Nat.testBit_and,e1,e2,e3];split<;>simp [Nat.testBit_and]
theorem avD(a b c d:Nat)(hc:c<8)(hd:d<8):(8*a+c) ||| (8*b+d)=8*(a ||| b)+(c ||| d):=by
 have Qq:c ||| d<2^3:=Nat.or_lt_two_pow (by simpa using hc) (by simpa using hd);apply Nat.eq_of_testBit_eq;intro j;have e1:=Nat.testBit_two_pow_mul_add (i:=3) a (b:=c) (by simpa using hc) j;have e2:=Nat.testBit_two_pow_mul_add (i:=3) b (b:=d) (by simpa using hd) j;have e3:=Nat.testBit_two_pow_mul_add (i:=3) (a ||| b) Qq j;simp only [Nat.reducePow] at e1 e2 e3;rw [Nat.testBit_or,e1,e2,e3];split<;>simp [Nat.testBit_or]
theorem wrap32{n:Nat}(h:n<2147483648):IntKind.i32.wrap (n:Int)=n:=by
 simp only [IntKind.wrap,IntKind.bits,IntKind.signed];simp;omega
theorem ofNat32{n:Nat}(h:n<2147483648):(BitVec.ofInt 32 (n:Int)).toNat=n:=by
 rw [BitVec.toNat_ofInt];simp;omega
section
variable{P:Program}{h:ab}{xt:TypeId}{x y:Operand}[K:KK Value]{W c:Nat}
theorem Kn{op:BinOp}{a b:Int}{r:Nat}(aQ:op=.and\/op=.or\/op=.andNot)(al:Op.intBits op .i32 a b=pure (.int .i32 r))(Q:Value->ab->Prop):
  bf P (do eqGuard op xt x y (.int .i32 a) (.int .i32 b);binOp op xt (.int .i32 a) (.int .i32 b)) h Q=Q (.int .i32 r) h:=by
 rcases aQ with rfl|rfl|rfl<;>simp [eqGuard,binOp,aV,bh,al]
theorem afQ{n q:Nat}(ao:n<2147483648)(aE:q<2147483648):au P (cr .and xt x y (.int .i32 (n:Nat)) (.int .i32 (q:Nat))) h=K.f (.int .i32 (n &&& q:Nat)) h:=
 Kn (.inl rfl) (by
  have hb:n &&& q<2147483648:=Nat.lt_of_le_of_lt Nat.and_le_left ao;show (pure (Value.int .i32 (IntKind.i32.wrap ((BitVec.ofInt 32 (n:Int)) &&& (BitVec.ofInt 32 (q:Int))).toNat)):Sem Value)=_;rw [BitVec.toNat_and,ofNat32 ao,ofNat32 aE,wrap32 hb]) K.f
theorem aik{n q:Nat}(ao:n<2147483648)(aE:q<2147483648):au P (cr .or xt x y (.int .i32 (n:Nat)) (.int .i32 (q:Nat))) h=K.f (.int .i32 (n ||| q:Nat)) h:=
 Kn (.inr (.inl rfl)) (by
  have hb:n ||| q<2^31:=Nat.or_lt_two_pow (by simpa using ao) (by simpa using aE);show (pure (Value.int .i32 (IntKind.i32.wrap ((BitVec.ofInt 32 (n:Int)) ||| (BitVec.ofInt 32 (q:Int))).toNat)):Sem Value)=_;rw [BitVec.toNat_or,ofNat32 ao,ofNat32 aE,wrap32 (by simpa using hb)]) K.f
theorem adl{n q:Nat}(ao:n<2147483648)(aE:q<2147483648):au P (cr .andNot xt x y (.int .i32 (n:Nat)) (.int .i32 (q:Nat))) h=K.f (.int .i32 (n &&& (4294967295- q):Nat)) h:=
 Kn (.inr (.inr rfl)) (by
  have hb:n &&& (4294967295- q)<2147483648:=Nat.lt_of_le_of_lt Nat.and_le_left ao;show (pure (Value.int .i32 (IntKind.i32.wrap ((BitVec.ofInt 32 (n:Int)) &&& ~~~(BitVec.ofInt 32 (q:Int))).toNat)):Sem Value)=_;rw [BitVec.toNat_and,BitVec.toNat_not,ofNat32 ao,ofNat32 aE,show 2^32- 1- q=4294967295- q by omega,wrap32 hb]) K.f
theorem afR{q:Nat}(hc:c<8)(aE:q<8):(8*W+c) &&& q=c &&& q:=by
 have:=YV W 0 c q hc aE;simpa using this
theorem ail{q:Nat}(hc:c<8)(aE:q<8):(8*W+c) ||| q=8*W+(c ||| q):=by
 have:=avD W 0 c q hc aE;simpa using this
theorem zC{q:Nat}(hW:W<134217728)(hc:c<8)(aE:q<8):au P (cr .and xt x y (.int .i32 (8*W+c:Nat)) (.int .i32 (q:Nat))) h=K.f (.int .i32 (c &&& q:Nat)) h:=by
 rw [afQ (by omega) (by omega),afR hc aE]
theorem Ox{q:Nat}(hW:W<134217728)(hc:c<8)(aE:q<8):au P (cr .or xt x y (.int .i32 (8*W+c:Nat)) (.int .i32 (q:Nat))) h=K.f (.int .i32 (8*W+(c ||| q):Nat)) h:=by
 rw [aik (by omega) (by omega),ail hc aE]
theorem ad7(hW:W<134217728)(hc:c<8):au P (cr .andNot xt x y (.int .i32 (8*W+c:Nat)) (.int .i32 2)) h=K.f (.int .i32 (8*W+(c &&& 5):Nat)) h:=by
 have e:=adl (P:=P) (h:=h) (xt:=xt) (x:=x) (y:=y) (K:=K) (n:=8*W+c) (q:=2) (by omega) (by omega);rw [show ((2:Nat):Int)=2 from rfl] at e;rw [e];have e2:=YV W 536870911 c 5 hc (by omega);have e3:W &&& 536870911=W:=by
  have:=Nat.and_two_pow_sub_one_eq_mod W 29;simp only [Nat.reducePow,Nat.reduceSub] at this;rw [this];omega
 rw [e3] at e2;rw [show 4294967295- 2=8*536870911+5 from rfl,e2]
theorem ak5(hW:W<134217728)(hc:c<8):au P (cr .and xt x y (.int .i32 (8*W+c:Nat)) (.int .i32 5)) h=K.f (.int .i32 (c &&& 5:Nat)) h:=zC (q:=5) hW hc (by omega)
theorem ak6(hW:W<134217728)(hc:c<8):au P (cr .and xt x y (.int .i32 (8*W+c:Nat)) (.int .i32 7)) h=K.f (.int .i32 (c &&& 7:Nat)) h:=zC (q:=7) hW hc (by omega)
theorem ak7(hW:W<134217728)(hc:c<8):au P (cr .and xt x y (.int .i32 (8*W+c:Nat)) (.int .i32 4)) h=K.f (.int .i32 (c &&& 4:Nat)) h:=zC (q:=4) hW hc (by omega)
theorem ak8(hW:W<134217728)(hc:c<8):au P (cr .and xt x y (.int .i32 (8*W+c:Nat)) (.int .i32 3)) h=K.f (.int .i32 (c &&& 3:Nat)) h:=zC (q:=3) hW hc (by omega)
theorem ak9(hW:W<134217728)(hc:c<8):au P (cr .and xt x y (.int .i32 (8*W+c:Nat)) (.int .i32 2)) h=K.f (.int .i32 (c &&& 2:Nat)) h:=zC (q:=2) hW hc (by omega)
theorem ala(hW:W<134217728)(hc:c<8):au P (cr .and xt x y (.int .i32 (8*W+c:Nat)) (.int .i32 1)) h=K.f (.int .i32 (c &&& 1:Nat)) h:=zC (q:=1) hW hc (by omega)
theorem anI(hW:W<134217728)(hc:c<8):au P (cr .or xt x y (.int .i32 (8*W+c:Nat)) (.int .i32 1)) h=K.f (.int .i32 (8*W+(c ||| 1):Nat)) h:=Ox (q:=1) hW hc (by omega)
theorem anJ(hW:W<134217728)(hc:c<8):au P (cr .or xt x y (.int .i32 (8*W+c:Nat)) (.int .i32 2)) h=K.f (.int .i32 (8*W+(c ||| 2):Nat)) h:=Ox (q:=2) hW hc (by omega)
theorem anK(hW:W<134217728)(hc:c<8):au P (cr .or xt x y (.int .i32 (8*W+c:Nat)) (.int .i32 4)) h=K.f (.int .i32 (8*W+(c ||| 4):Nat)) h:=Ox (q:=4) hW hc (by omega)
theorem alb(hW:W<134217728)(hc:c<8):au P (cr .add xt x y (.int .i32 (8*W+c:Nat)) (.int .i32 8)) h=K.f (.int .i32 (8*(W+1)+c:Nat)) h:=by
 rw [tt,show ((8*W+c:Nat):Int)+8=((8*(W+1)+c:Nat):Int) by omega,wrap32 (by omega)]
theorem alc(hW:W<134217728)(hc:c<8)(h0:0<W):au P (cr .sub xt x y (.int .i32 (8*W+c:Nat)) (.int .i32 8)) h=K.f (.int .i32 (8*(W- 1)+c:Nat)) h:=by
 rw [wZ,show ((8*W+c:Nat):Int)- 8=((8*(W- 1)+c:Nat):Int) by omega,wrap32 (by omega)]
theorem ald(hc:c<8):au P (cr .shr xt x y (.int .i32 (8*W+c:Nat)) (.int .u64 3)) h=K.f (.int .i32 (W:Nat)) h:=by
 have e:Op.shift .shr .i32 ((8*W+c:Nat):Int) .u64 3=pure (.int .i32 (W:Nat)):=by
  simp only [Op.shift];rw [if_neg (by omega)];simp only [show min (3:Int).toNat IntKind.i32.bits=3 from rfl];rw [show (2:Int)^3=8 from rfl,Int.fdiv_eq_ediv_of_nonneg _ (by omega)];congr 2;omega
 revert e;generalize (((8*W+c:Nat)):Int)=z;intro e;simp [au,cr,eqGuard,binOp,aV,bh,e]
end
theorem BZ:gy Tryz.prog 171 Tryz.f171 (Extern.Atomic.casT (.int .i32)):=⟨Tryz.func171,by kernel_rfl,by kernel_rfl,by kernel_rfl,by kernel_rfl⟩
theorem Xe:gy Tryz.prog 173 Tryz.f173 (Extern.Atomic.update (Op.intArith .add) .i32 true):=⟨Tryz.func173,by kernel_rfl,by kernel_rfl,by kernel_rfl,by kernel_rfl⟩
theorem Xf:gy Tryz.prog 127 Tryz.f127 (Extern.Race.marked .releaseMerge):=⟨Tryz.func127,by kernel_rfl,by kernel_rfl,by kernel_rfl,by kernel_rfl⟩
theorem zD:gy Tryz.prog 148 Tryz.f148 (Extern.Race.marked .acquire):=⟨Tryz.func148,by kernel_rfl,by kernel_rfl,by kernel_rfl,by kernel_rfl⟩
theorem se:gy Tryz.prog 128 Tryz.f128 (fun _=>do mark .disable;pure Extern.Race.none_):=⟨Tryz.func128,by kernel_rfl,by kernel_rfl,by kernel_rfl,by kernel_rfl⟩
theorem k6:gy Tryz.prog 129 Tryz.f129 (fun _=>do mark .enable;pure Extern.Race.none_):=⟨Tryz.func129,by kernel_rfl,by kernel_rfl,by kernel_rfl,by kernel_rfl⟩
theorem anL:gy Tryz.prog 196 Tryz.f196 Extern.Sync.canSpin:=⟨Tryz.func196,by kernel_rfl,by kernel_rfl,by kernel_rfl,by kernel_rfl⟩
theorem anM:gy Tryz.prog 197 Tryz.f197 Extern.Sync.nothing:=⟨Tryz.func197,by kernel_rfl,by kernel_rfl,by kernel_rfl,by kernel_rfl⟩
theorem Xg:gy Tryz.prog 199 Tryz.f199 Extern.OsHooks.nano:=⟨Tryz.func199,by kernel_rfl,by kernel_rfl,by kernel_rfl,by kernel_rfl⟩
theorem anN:gy Tryz.prog 200 Tryz.f200 Extern.Sync.semacquire:=⟨Tryz.func200,by kernel_rfl,by kernel_rfl,by kernel_rfl,by kernel_rfl⟩
theorem anO:gy Tryz.prog 202 Tryz.f202 Extern.Sync.semrelease:=⟨Tryz.func202,by kernel_rfl,by kernel_rfl,by kernel_rfl,by kernel_rfl⟩
theorem G2:(Tryz.prog.funcs[172]?).any (·.norace)=true:=by kernel_rfl
theorem aqe:(Tryz.prog.funcs[174]?).any (·.norace)=true:=by kernel_rfl
theorem aqf:(Tryz.prog.funcs[147]?).any (·.norace)=true:=by kernel_rfl
theorem X7:Tryz.f199.norace=true:=by kernel_rfl
theorem aac:Tryz.prog.underlying 21=some (.int .i32):=by kernel_rfl
end
end
end Go.Nk
