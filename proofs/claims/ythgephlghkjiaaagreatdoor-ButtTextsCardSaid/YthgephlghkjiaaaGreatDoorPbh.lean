/- Part Pbh of the proof of ButtTexts: lemmas. -/
import Derived.ChangeSame
import Derived.ChangeShapes
import Derived.WideShapes
import Derived.DataReads
import Derived.Test.YthgephlghkjiaaaGreatDoorRows
import Derived.LaidMore
import Derived.LaidSub
import Derived.LaidHandle
import Derived.Lib.LaidU8
import Derived.OpenShut
import Derived.Test.YthgephlghkjiaaaGreatDoorPbg
set_option maxRecDepth 100000
set_option maxHeartbeats 4000000
set_option linter.all false
namespace Go.Nk
noncomputable section
open Go Go.Conc Go.Proofs
open Bool renaming false->q9,true->J
open Go renaming Value->o5,World->tg,Deferred->tc,Program->tb,stepG->vx,undef->vk,results->aua,Goroutine->B6,TypeId->ta,DataW->avC,MemPlace->axa,laidMetH_iff->aA0,func_of_trod->ayh
open Go.Conc renaming G->B5
open Go.DataW renaming trod->aup,trod_int->aCP,Trod->azl
open Go.Frame renaming enter->aue
open Go.Proofs.Tryz renaming prog->pv,f7->xh,underlying3->axz,underlying9->awi,underlying25->ay1,underlying29->aAm,underlying144->aA1,underlying146->aCR
open List renaming getElem?_eq_none->au6,range->atG,getElem?_eq_getElem->Q4,getElem?_map->aw1,getElem?_eq_some_iff->F1,mem_range->au9,drop_zero->avA,drop_succ_cons->av9,take_succ_cons->avJ,take_zero->axC,mem_filter->aw0,mem_cons->B4
open List.cons renaming injEq->awv
open Option renaming some->C,none->o0,map_some->avb,getD_some->auS
open Option.some renaming inj->T6,injEq->W6
def NT{H:aE}:∀(L:List Nat) (t:dp cj),(∀c x,t.get c=C x->H.t.get c=C x)->∀c x,(wS H L t).get c=C x->H.t.get c=C x
 | [],t,h,c,x,e=>h c x e
 |n::L,t,h,c,x,e=>by
  rw[wS]at e;cases a:H.t.get n with
  |none=>rw[a]at e;exact NT L t h c x e
  |some y=>
   rw[a]at e;simp only[dp.nB]at e;refine NT L _ (λc x e=> ?_) c x e;rw[dp.sO y (n+1) t n U]at e;by_cases hc:c=n
   .rw[if_pos hc]at e;cases e;rw[hc];exact a
   .rw[if_neg hc]at e;exact h c x e
def Gr{H:aE}{L:List Nat}{c:Nat}{x:cj}(e:({H with t:=wS H L .nil}:aE).get c=C x):H.get c=C x:=by obtain⟨h1,b⟩:=aE.get_some e;rw[aE.get_eq];have a:c9 H.bQ c=q9:=h1;rw[a];exact NT L .nil (λc x e=>by rw[dp.get_nil]at e;cases e) c x b
def zv(h0:ae)(ρ:aX)(H:aE):Prop:=∀c b k x,h0 b=C x->gL H c->ρ c≠C (b,k)
section
variable{os0:eI}{Post:o5->tg->Prop}
def XW:CB pv J (SM 203 210 os0 Post) iD 12 (eP fp kC 60):=HB eR (NQ 60) (CJ Xs 60)
def XX{h0 h h':ae}{ρ bq:aX}{H a H2:aE}(d:zv h0 ρ H)(le:h0.ar h)(F:gq H ρ h a bq h')(l:H2.cg=a.cg)(g:∀c x,H2.get c=C x->a.get c=C x):zv h0 bq H2/\h0.ar h':=by
 refine⟨λc b k x hb f e=> ?_,λb x hb=>F.lZ b x (le b x hb) λc k f=>d c b k x hb f⟩;obtain⟨n,y,i,j⟩:=f;have m:gL a c:=⟨by rw[<- l];exact n,y,g _ _ i,j⟩;rcases Nat.lt_or_ge c H.an with hc|hc
 .rw[F.old c hc]at e;exact d c b k x hb (gL.back F hc m) e
 .rcases F.lB c y b k (g _ _ i) hc j e with r|⟨o,k0,p,q⟩
  .rw[le b x hb]at r;cases r
  .exact d o b k0 x hb p q
def pn{n:Nat}{b:aS}{L:List Nat}{X:List mY}{E dz:cL}{H H':aE}(pc:oM L (ix (eP fp kC 60) X E H)=C (dz,H')){a y:Code}(p:comp pv (dV 7) a=.reg X)(q:(comp pv (dV 7) a).iy 12=J)(r:iJ pv (dV 7) a=J)
  {h0 h:ae} {ρ:aX} {e:Env} {s:av} (S:cD pv 12 ρ H.get H.an h) (o:12<=H.an) (u:lD ρ E e) (v:iD s) (w:zv h0 ρ H) (le:h0.ar h) {K:eM->Env->List tc->av->ae->Prop}
  (next:∀(bq:aX) h' e' l,cD pv 12 bq H'.get H'.an h'->12<=H'.an->lD bq dz e'->iD l->zv h0 bq H'->h0.ar h'->cB pv J (SM 203 210 os0 Post) n b y K e' [] l h'):
  cB pv J (SM 203 210 os0 Post) n b (.seq a y) K e [] s h:=by
 cases f:ix (eP fp kC 60) X E H with
 |fail=>rw[f]at pc;cases pc
 |ok x D m=>
  rw[f]at pc;cases x with
  |ext i=>cases pc
  |ret=>cases pc
  |cx=>cases pc;rw[PH];refine CC (NQ 60) XW (dV 7) a E H ρ h e s .cx dz m _ q r (by rw[p];exact f) S o v u λl bq e' h' j g dz F=> ?_;obtain⟨A,B⟩:=XX (H2:= {m with t:=wS m L .nil}) w le F rfl λc x e=>Gr e;exact next bq h' e' l ⟨λc x f=>g.blk c x (Gr f),λc d x y b k k' f z=>g.inj c d x y b k k' (Gr f) (Gr z),g.dX,g.rI⟩ (Nat.le_trans o F.an) dz j A B
def asr:bz pv 7=J:=O
def Gs{c:Nat}{x:cj}(e:BC.get c=C x):(c=0/\x=.cs q9 q9 145 [wR 275,wR 276,wR 277])\/(c=1/\x=.cs q9 q9 147 [wR 289,wR 250]):=by
 obtain⟨_,e⟩:=aE.get_some e;cases c with
 |zero=>exact .inl ⟨rfl,(T6 e).symm⟩
 |succ c=>
  have e:cond (Nat.beq (Nat.mod c 2) 0) ((dp.node (C (.cs q9 q9 147 [wR 289,wR 250])) .nil .nil:dp cj).get (Nat.div c 2)) ((dp.nil:dp cj).get (Nat.div c 2))=C x:=e;cases hb:Nat.beq (Nat.mod c 2) 0 with
  |false=>rw[hb]at e;cases e
  |true=>
   rw[hb,cond_true]at e;have b:c%2=0:=Nat.eq_of_beq_eq_true hb;cases hd:Nat.div c 2 with
   |zero=>rw[hd]at e;have:c/2=0:=hd;exact .inr ⟨U,(T6 e).symm⟩
   |succ d=>
    rw[hd,dp.zR]at e;cases a:Nat.beq (Nat.mod d 2) 0 with
    |false=>rw[a,cond_false,dp.get_nil]at e;cases e
    |true=>rw[a,cond_true,dp.get_nil]at e;cases e
structure vo(h:ae):Prop where
 b:∃w,h 0=C ⟨.cells #[dO 275 [],dO 276 [],dO 277 []] 145 (0,0),w⟩
 g:∃w,h 1=C ⟨.cells #[dO 289 [],dO 250 []] 147 (0,0),w⟩
def ass{h:ae}{s:av}(W:vo h)(Jz:iD s):bo pv J (SM 203 210 os0 Post) 7 #[] s h λf h' z=>iD f/\h.ar h'/\z=.bool J:=by
 have hb:xh.body=C (xh.body.getD .skip):=O
 refine bL (args:=[]) Tryz.func7 hb Tryz.ntmps7 Y O ?_;have X:comp pv (dV 7) (cR 13 (xh.body.getD .skip))=NS:=O
 have ab:(comp pv (dV 7) (cR 13 (xh.body.getD .skip))).iy 12=J:=O
 have ad:iJ pv (dV 7) (cR 13 (xh.body.getD .skip))=J:=O
 have n:cR 0 (xh.body.getD .skip)=.seq (eK (cR 0 (xh.body.getD .skip))) (cR 1 (xh.body.getD .skip))/\comp pv (dV 7) (eK (cR 0 (xh.body.getD .skip)))=.reg (jm 0)/\(comp pv (dV 7) (eK (cR 0 (xh.body.getD .skip)))).iy 12=J/\iJ pv (dV 7) (eK (cR 0 (xh.body.getD .skip)))=J:=⟨O,O,O,O⟩;have o:cR 1 (xh.body.getD .skip)=.seq (eK (cR 1 (xh.body.getD .skip))) (cR 2 (xh.body.getD .skip))/\comp pv (dV 7) (eK (cR 1 (xh.body.getD .skip)))=.reg (jm 1)/\(comp pv (dV 7) (eK (cR 1 (xh.body.getD .skip)))).iy 12=J/\iJ pv (dV 7) (eK (cR 1 (xh.body.getD .skip)))=J:=⟨O,O,O,O⟩;have p:cR 2 (xh.body.getD .skip)=.seq (eK (cR 2 (xh.body.getD .skip))) (cR 3 (xh.body.getD .skip))/\comp pv (dV 7) (eK (cR 2 (xh.body.getD .skip)))=.reg (jm 2)/\(comp pv (dV 7) (eK (cR 2 (xh.body.getD .skip)))).iy 12=J/\iJ pv (dV 7) (eK (cR 2 (xh.body.getD .skip)))=J:=⟨O,O,O,O⟩;have q:cR 3 (xh.body.getD .skip)=.seq (eK (cR 3 (xh.body.getD .skip))) (cR 4 (xh.body.getD .skip))/\comp pv (dV 7) (eK (cR 3 (xh.body.getD .skip)))=.reg (jm 3)/\(comp pv (dV 7) (eK (cR 3 (xh.body.getD .skip)))).iy 12=J/\iJ pv (dV 7) (eK (cR 3 (xh.body.getD .skip)))=J:=⟨O,O,O,O⟩;have r:cR 4 (xh.body.getD .skip)=.seq (eK (cR 4 (xh.body.getD .skip))) (cR 5 (xh.body.getD .skip))/\comp pv (dV 7) (eK (cR 4 (xh.body.getD .skip)))=.reg (jm 4)/\(comp pv (dV 7) (eK (cR 4 (xh.body.getD .skip)))).iy 12=J/\iJ pv (dV 7) (eK (cR 4 (xh.body.getD .skip)))=J:=⟨O,O,O,O⟩;have t:cR 5 (xh.body.getD .skip)=.seq (eK (cR 5 (xh.body.getD .skip))) (cR 6 (xh.body.getD .skip))/\comp pv (dV 7) (eK (cR 5 (xh.body.getD .skip)))=.reg (jm 5)/\(comp pv (dV 7) (eK (cR 5 (xh.body.getD .skip)))).iy 12=J/\iJ pv (dV 7) (eK (cR 5 (xh.body.getD .skip)))=J:=⟨O,O,O,O⟩;have u:cR 6 (xh.body.getD .skip)=.seq (eK (cR 6 (xh.body.getD .skip))) (cR 7 (xh.body.getD .skip))/\comp pv (dV 7) (eK (cR 6 (xh.body.getD .skip)))=.reg (jm 6)/\(comp pv (dV 7) (eK (cR 6 (xh.body.getD .skip)))).iy 12=J/\iJ pv (dV 7) (eK (cR 6 (xh.body.getD .skip)))=J:=⟨O,O,O,O⟩;have v:cR 7 (xh.body.getD .skip)=.seq (eK (cR 7 (xh.body.getD .skip))) (cR 8 (xh.body.getD .skip))/\comp pv (dV 7) (eK (cR 7 (xh.body.getD .skip)))=.reg (jm 7)/\(comp pv (dV 7) (eK (cR 7 (xh.body.getD .skip)))).iy 12=J/\iJ pv (dV 7) (eK (cR 7 (xh.body.getD .skip)))=J:=⟨O,O,O,O⟩;have w:cR 8 (xh.body.getD .skip)=.seq (eK (cR 8 (xh.body.getD .skip))) (cR 9 (xh.body.getD .skip))/\comp pv (dV 7) (eK (cR 8 (xh.body.getD .skip)))=.reg (jm 8)/\(comp pv (dV 7) (eK (cR 8 (xh.body.getD .skip)))).iy 12=J/\iJ pv (dV 7) (eK (cR 8 (xh.body.getD .skip)))=J:=⟨O,O,O,O⟩;have A:cR 9 (xh.body.getD .skip)=.seq (eK (cR 9 (xh.body.getD .skip))) (cR 10 (xh.body.getD .skip))/\comp pv (dV 7) (eK (cR 9 (xh.body.getD .skip)))=.reg (jm 9)/\(comp pv (dV 7) (eK (cR 9 (xh.body.getD .skip)))).iy 12=J/\iJ pv (dV 7) (eK (cR 9 (xh.body.getD .skip)))=J:=⟨O,O,O,O⟩;have D:cR 10 (xh.body.getD .skip)=.seq (eK (cR 10 (xh.body.getD .skip))) (cR 11 (xh.body.getD .skip))/\comp pv (dV 7) (eK (cR 10 (xh.body.getD .skip)))=.reg (jm 10)/\(comp pv (dV 7) (eK (cR 10 (xh.body.getD .skip)))).iy 12=J/\iJ pv (dV 7) (eK (cR 10 (xh.body.getD .skip)))=J:=⟨O,O,O,O⟩;have E:cR 11 (xh.body.getD .skip)=.seq (eK (cR 11 (xh.body.getD .skip))) (cR 12 (xh.body.getD .skip))/\comp pv (dV 7) (eK (cR 11 (xh.body.getD .skip)))=.reg (jm 11)/\(comp pv (dV 7) (eK (cR 11 (xh.body.getD .skip)))).iy 12=J/\iJ pv (dV 7) (eK (cR 11 (xh.body.getD .skip)))=J:=⟨O,O,O,O⟩;have G:cR 12 (xh.body.getD .skip)=.seq (eK (cR 12 (xh.body.getD .skip))) (cR 13 (xh.body.getD .skip))/\comp pv (dV 7) (eK (cR 12 (xh.body.getD .skip)))=.reg (jm 12)/\(comp pv (dV 7) (eK (cR 12 (xh.body.getD .skip)))).iy 12=J/\iJ pv (dV 7) (eK (cR 12 (xh.body.getD .skip)))=J:=⟨O,O,O,O⟩;have e0:xh.body.getD .skip=cR 0 (xh.body.getD .skip):=rfl;have P:∀(ρ:aX) (h1:ae) (e:Env) (l:av),cD pv 12 ρ vl.get vl.an h1->12<=vl.an->lD ρ BD e->iD l->zv h ρ vl->h.ar h1->cB pv J (SM 203 210 os0 Post) 208 ⟨7,.normal,o0⟩ (cR 13 (xh.body.getD .skip)) (λx=>match x with|.ext _=>λ_ _ _ _=>False|_=>dT pv xh (λf h' z=>iD f/\h.ar h'/\z=.bool J) 208) e [] l h1:=by
  intro ρ h1 e l S af hE hJ hO le;cases a:gK (eP fp kC 60) NS BD vl with
  |fail=>have:=XV;rw[a]at this;cases this
  |ok x H Q=>
   have I:=XV;rw[a]at I;cases x with
   |ext i=>cases I
   |cx=>cases I
   |ret=>
    refine CC (NQ 60) XW (dV 7) _ BD vl ρ h1 e l .ret H Q _ ab ad (by rw[X];exact a) S af hJ hE λf bq R h' j S' dz F=> ?_;obtain⟨_,o2⟩:=XX (H2:=Q) hO le F rfl λc x e=>e;have L:=dz 0;have a7:H.rd 0=.bool J:=T6 I;rw[a7]at L;have he:R 0=.bool J:=by cases a8:R 0<;>rw[a8]at L<;>cases L;rfl
    exact bu Tryz.results7 Y ⟨j,o2,he⟩
 generalize xh.body.getD .skip=B at*
 generalize(λx=>match x with|.ext _=>λ_ _ _ _=>False|_=>dT pv xh (λf h' z=>iD f/\h.ar h'/\z=.bool J) 208:eM->Env->List tc->av->ae->Prop)=K at P ⊢;rw[e0];let fH:aX:=λc=>if c<12 then C (c,0)else o0
 have m:∀c,c<12->fH c=C (c,0):=λc hc=>by simp[fH,hc]
 have gI:cD pv 12 fH BC.get BC.an h:=by
  refine⟨λc x a=> ?_,λc d x y b k k' a hy _ _ h1 M=> ?_,λc hc=> ?_,λg hg=>m g hg⟩
  .obtain⟨w0,g0⟩:=W.b;obtain⟨N,g1⟩:=W.g;rcases Gs a with⟨rfl,rfl⟩|⟨rfl,rfl⟩
   .exact⟨0,0,m 0 aty,_,w0,[dO 275 [],dO 276 [],dO 277 []],[],g0,λe=>(by cases e),rfl,.cons (.func _ .nil .nil) (.cons (.func _ .nil .nil) (.cons (.func _ .nil .nil) .nil)),λ_=>rfl,λe=>(by cases e)⟩
   .exact⟨1,0,m 1 aty,_,N,[dO 289 [],dO 250 []],[],g1,λe=>(by cases e),rfl,.cons (.func _ .nil .nil) (.cons (.func _ .nil .nil) .nil),λ_=>rfl,λe=>(by cases e)⟩
  .have hc:c<12:=by rcases Gs a with⟨e,_⟩|⟨e,_⟩<;>omega
   have hd:d<12:=by rcases Gs hy with⟨e,_⟩|⟨e,_⟩<;>omega
   rw[m c hc]at h1;rw[m d hd]at M;cases h1;cases M;rfl
  .have:12<=c:=hc;simp only[fH];rw[if_neg U]
 have O0:zv h fH BC:=λc b k x _ hw=>by obtain⟨N,y,w2,_⟩:=hw;have:12<=c:=N;rcases Gs w2 with⟨e,_⟩|⟨e,_⟩<;>omega
 have hl:lD fH Xv (dC []):=Hp .nil;rw[n.1];refine pn asb n.2.1 n.2.2.1 n.2.2.2 gI aty hl Jz O0 (ae.ar.cO h) λhp h1 e1 l S1 bK H J1 O1 bm=> ?_;rw[o.1];refine pn asc o.2.1 o.2.2.1 o.2.2.2 S1 bK H J1 O1 bm λhq M e2 s2 S2 bR E2 J2 O2 b0=> ?_;rw[p.1];refine pn asd p.2.1 p.2.2.1 p.2.2.2 S2 bR E2 J2 O2 b0 λhs h3 e3 fe S3 cQ E3 J3 O3 b8=> ?_;rw[q.1];refine pn ase q.2.1 q.2.2.1 q.2.2.2 S3 cQ E3 J3 O3 b8 λht h4 e4 s4 S4 n4 E4 J4 O4 ck=> ?_;rw[r.1];refine pn asf r.2.1 r.2.2.1 r.2.2.2 S4 n4 E4 J4 O4 ck λhD h5 e5 gA S5 n5 E5 J5 O5 dd=> ?_;rw[t.1];refine pn ash t.2.1 t.2.2.1 t.2.2.2 S5 n5 E5 J5 O5 dd λhF h6 e6 s6 S6 n6 E6 J6 O6 dA=> ?_;rw[u.1];refine pn asi u.2.1 u.2.2.1 u.2.2.2 S6 n6 E6 J6 O6 dA λhH h7 e7 s7 S7 n7 E7 J7 O7 ee=> ?_;rw[v.1];refine pn asj v.2.1 v.2.2.1 v.2.2.2 S7 n7 E7 J7 O7 ee λhK h8 e8 s8 S8 n8 E8 J8 O8 eo=> ?_;rw[w.1];refine pn asl w.2.1 w.2.2.1 w.2.2.2 S8 n8 E8 J8 O8 eo λhN h9 e9 jC S9 n9 E9 J9 O9 ey=> ?_;rw[A.1];refine pn asm A.2.1 A.2.2.1 A.2.2.2 S9 n9 E9 J9 O9 ey λhQ kE hR hS ez eA eE eF eG eL=> ?_;rw[D.1];refine pn asn D.2.1 D.2.2.1 D.2.2.2 ez eA eE eF eG eL λhT kN hU hV eT fa fb fc fg fl=> ?_;rw[E.1];refine pn aso E.2.1 E.2.2.1 E.2.2.2 eT fa fb fc fg fl λhX k0 hZ h0 fs ft fx fz gb gf=> ?_;rw[G.1];refine pn asp G.2.1 G.2.2.1 G.2.2.2 fs ft fx fz gb gf λih k2 il jl gi gj gm gp gv gx=> ?_;exact P _ _ _ _ gi gj gm gp gv gx
end
section
variable{P:tb}{ai:Type}{S:Sys ai}{a:Act}{b:aS}{todo:List Item}{fn:Func}{w:tg}{t n:Nat}
def ast(f:b.kind=.normal)(hd:a.defers=[])(c:P.funcs[b.fn]? =C fn)(hi:P.inits.idxOf? b.fn=o0)(d:fn.results=#[.tmp t]):vx P J (B5 {b.at a todo with mode:=.returning} []) w=.ended (.done (a.tmps.getD t vk)) w #[]:=by
 have e:(aua fn a.tmps).runT P w #[]=(.ok (a.tmps.getD t vk) w,#[]):=by simp[aua,d]
 simp[-Sem.runT_eq,B5,vx,unwind,aS.at,hd,c,e,doReturn,hi,f,GStep.after,seen]
def asu(j:b.kind=.normal)(c:P.funcs[b.fn]? =C fn)(hi:P.inits.idxOf? b.fn=o0)(a:fn.results=#[.tmp t]){Q:ai->ae->B6->Prop}{s:ai}{tmps:Array o5}{Post:ae->o5->Prop}
  (c1:∀h' v g,Post h' v->g.status=.running->(∀w,vx P J g w=.ended (.done v) w #[])->Q s h' g):∀(ds:List tc) (h:ae),jU P ds h (λh=>aH P (aua fn tmps) h λv h'=>Post h' v)->dv P J S Q s h (B5 {b.at ⟨tmps,ds⟩ todo with mode:=.returning} []):=by
 intro ds
 induction ds with
 |nil=>intro h u;refine .done (c1 h _ _ ?_ rfl λw=>ast j rfl c hi a);simp only[jU,aua,a,aJ]at u;simpa[aR,aJ]using u
 |cons d ds f=>
  intro h u;obtain⟨i,args⟩:=d;cases i with
  |collected r=>exact tU (g':=λ_=>B5 {b.at ⟨tmps,ds⟩ todo with mode:=.returning} []) (fn:=b.fn) rfl (λ_ _ _ _ _ _=>trivial) u λw v w' es h' e q=>by obtain⟨rfl,q⟩:=q;exact⟨GH rfl e,f h' q⟩
  |_=>exact u.elim
def asv{f:FuncId}{c:Code}{args:List o5}{s:ai}{h:ae}{Post:ai->ae->o5->Prop}{Q:ai->ae->B6->Prop}(d:P.funcs[f]? =C fn)(hb:fn.body=C c)(m:fn.ntmps=n)
  (z:args.length<=n) (o:fN n c=J) (hi:P.inits.idxOf? f=o0) (p:fn.results=#[.tmp t])
  (c1:∀k h' v g,Post k h' v->g.status=.running->(∀w,vx P J g w=.ended (.done v) w #[])->Q k h' g)
  (u:cB P J S n ⟨f,.normal,o0⟩ c (λx=>match x with|.ext _=>λ_ _ _ _=>False|_=>dT P fn Post n) (dC args) [] s h):
  dv P J S Q s h (B5 (aue P f args.toArray .normal) []):=by
 have r:iR n ⟨args.toArray++Array.replicate (n- args.toArray.size) vk,[]⟩ (dC args):=by
  refine⟨atB,λt=> ?_⟩;simp only[dC,Array.getD_eq_getD_getElem?,List.getD_eq_getElem?_getD,Array.getElem?_append,List.size_toArray];by_cases j:t<args.length
  .simp[j]
  .simp only[j,if_false];rw[au6 U];simp only[Array.getElem?_replicate];split<;>rfl
 have e:aue P f args.toArray .normal=(⟨f,.normal,o0⟩:aS).at ⟨args.toArray++Array.replicate (n- args.toArray.size) vk,[]⟩ [.code c]:=by simp[aue,aS.at,d,hb,m]
 rw[e];refine xg Y (xw o r u) Q [] [] λx a s h ⟨e,r,q⟩=> ?_;have y:=xz r;have l:∀todo,dT P fn Post n e a.defers s h->dv P J S Q s h (B5 {(⟨f,.normal,o0⟩:aS).at a todo with mode:=.returning} []):=λtodo q=>by unfold dT at q;rw[<- y]at q;exact asu (b:=⟨f,.normal,o0⟩) rfl d hi p (Post:=Post s) (λh' v g=>c1 s h' v g) a.defers h q
 cases x with
 |ext i=>exact q.elim
 |cx=>exact .iG rfl (λw=>BI rfl) (l [] q)
 |ret=>exactλA=>.iG rfl (λw=>BJ rfl) (l _ q)
end
def fM(W:tg):ae:=λb=>(W.heap[b]?).map λo=>⟨o,J⟩
def asw(W:tg):(fM W).In W:=λb x e=>by
 unfold fM at e;cases a:W.heap[b]? with
 |none=>rw[a]at e;cases e
 |some o=>rw[a]at e;cases e;rfl
def sy:av where
 x:=tp λ_=>0
 cap:=1
 aG:=1
 n0:=1
 wd:=λ_=>.eO
 ms:=.eS q9
 wv:=0
 wr:=0
 ws:=0
 mu:=0
 wg:=0
 on:=q9
 sh:=[]
 aT:=ae.empty
 cw:=o0
 bC:=λ_=>0
 I:=λ_ aT=>aT=ae.empty
 cN:=λ_=>[]
 full:=λ_=>[]
 iB:=q9
 b0:=0
def idle0:iD sy:=⟨aty,rfl,rfl,rfl,rfl,⟨rfl,rfl,rfl⟩,rfl⟩
def asx(W:tg):c8 203 210 ⟨W.os,W.output⟩ sy 1 (λj=>if j=0 then fM W elseλ_=>o0) W #[]:=by
 have l:sy.gN=ae.empty:=by simp[av.gN,sy]
 have d:∀{i b:Nat} {x:dL},(if i=0 then fM W elseλ_=>o0) b=C x->i=0:=λ{i b x} e=>by
  by_cases hi:i=0
  .exact hi
  .rw[if_neg hi]at e;cases e
 have f:∀b,¬dX sy.gN b:=λb hb=>by rw[l]at hb;exact vZ b hb
 have c:∀i b,¬gu (λj=>if j=0 then fM W elseλ_=>o0) i b:=λi b ⟨x,e,p⟩=>by
  have:=d e;subst this;simp only[if_true,fM]at e;cases m:W.heap[b]? with
  |none=>rw[m]at e;cases e
  |some o=>rw[m]at e;cases e;cases p
 have n:∀b,¬b∈sy.sh:=λb hb=>by simp[sy]at hb
 refine{aG:=rfl,pos:=by decide,n0:=⟨aty,aty⟩,hi:= ?_,je:= ?_,bC:=λi _ _=> ?_,old:=λi h0 h1=>rfl,jy:=λh=>(by cases h),jf:=λh=>(by cases h),gP:=λh=>(by cases h),ok:=Sl _ _,cap:=by decide,out:=λi _=>rfl,cw:=λi h=>(by cases h),kW:=λh=>(by cases h),full:=λi _ _ _=>rfl,hB:= ?_,eO:=λi h0 _=> ?_,os:=⟨.refl _,rfl⟩,jZ:=λh=>(by cases h),j5:=λh=>(by cases h),kq:=λi _ _=>⟨rfl,rfl⟩}
 .refine{cZ:=λi=> ?_,oW:= ?_,ex:= ?_,out:=λi hi=> ?_,low:=λb hb=>(n b hb).elim,fo:= ?_}
  .by_cases hi:i=0
   .simp only[hi,if_true];exact asw W
   .simp only[hi,if_false];intro b x e;cases e
  .rw[l];intro b x e;cases e
  .exact⟨λi j b ⟨x,e,_⟩ ⟨y,q,_⟩=>(d e).trans (d q).symm,λi j b _ h=>c j b h,λi b _ h=>f b h,λi b _ h=>n b h,λi b h=>(c i b h).elim,λi b h=>(c i b h).elim,λb h=>(f b h).elim⟩
  .rw[if_neg U]
  .refine{clean:=λr ⟨i,j,_,⟨a,b,g,_⟩,_⟩=>by simp[Trace.act?]at g,gs:=λi op h=>by simp at h,low:=λop h=>by simp at h,own:=λi b _ _ k a g=>by simp[touchAt,Trace.act?]at g,ro:=λi b _ h=>(c i b h).elim,aT:=λb h=>(f b h).elim,quiet:=λi op x h=>by simp at h,plain:=λi op x h=>by simp at h,norel:=λi h=>by simp[Trace.act?]at h}
 .exact⟨λi h=>by simp[Trace.act?]at h,λi h0 h1=>by omega,λi h0 h1=>by omega⟩
 .simp[Deaf,Trace.deaf,sy]
 .exact⟨aty,rfl,rfl,aty,aty⟩
 .show(if i=0 then fM W elseλ_=>o0)=ae.empty;rw[if_neg U];rfl
def vo.le{h h':ae}(l:h.ar h')(t:vo h):vo h':=let⟨w,e⟩:=t.b;let⟨w',a⟩:=t.g;⟨⟨w,l _ _ e⟩,w',l _ _ a⟩
def vo.asy{h:ae}(t:vo h):tv h:=let⟨w,e⟩:=t.b;let⟨w',a⟩:=t.g;⟨⟨_,_,w,e⟩,_,_,w',a⟩
def Gt(W:tg)(z:o5)(a:tg):Prop:=z=.bool J/\(fM W).In a/\Ah ⟨W.os,W.output⟩ a
def asz:fN 84 (Tryz.f3.body.getD .skip)=J:=O
def asA:pv.inits.idxOf? 3=o0:=O
def asB{W:tg}{d:av}{h':ae}{v:o5}{g:B6}(Jz:iD d)(le:(fM W).ar h')(f:v=.bool J)(h:g.status=.running)(k:∀w,vx pv J g w=.ended (.done v) w #[]):(fD pv 203 210 ⟨W.os,W.output⟩ (Gt W)).GD d h' g:=by
 refine⟨h,λγ n hs w t l (a:c8 203 210 ⟨W.os,W.output⟩ γ n hs w t) m=> ?_⟩;have R:=rS l Jz.aG;have c:γ.n0=n:=by rw[R.n0,Jz.n0,<- a.aG];exact((R.z rfl).2.2.1).symm
 refine⟨λj h0 o=>⟨U,a.old j h0 (by rw[c];exact o)⟩,v,#[],k w,⟨f,λb x e=> ?_,a.os⟩,λp=> ?_,?_⟩
 .exact a.hi.cZ 0 b x (by rw[m];exact le b x e)
 .rw[ys];exact a.hi.fo.clean p
 .rw[ys];refine Yl a.hi.fo.gs λi h0 hi=>a.je.jn i h0 hi ?_;unfold av.eN;rw[if_pos (by rw[c];exact hi)]
def asC{W:tg}{v w:o5}{x:bY}{y:Ground}{txt:List UInt8}(e:k7 (fM W) v x)(n:kL (fM W) w y)(b:vo (fM W))(p:nR (fM W))(q:oH (fM W))(jA:pf (fM W))(cU:ve (fM W)):∃N a o w' d,runNT pv (N+1) (solo (B5 (aue pv 3 #[v,w,au txt] .normal) []) W) #[]=(.ended o w',d)/\runN pv N (solo (B5 (aue pv 3 #[v,w,au txt] .normal) []) W)=.next a/\step pv a=.ended o w'/\Conc.Good pv (Gt W) a o w' d:=by
 refine(fD pv 203 210 ⟨W.os,W.output⟩ (Gt W)).ends (γ:=sy) (h:=fM W) ?_ (asx W);refine aq3 (S:=SM 203 210 ⟨W.os,W.output⟩ (Gt W)) (s:=sy) (Jz:=iD) (txt:=txt) (λc hb u=> ?_) e n b.asy p q jA cU (λh' le=>ass (b.le le) idle0) asr;have f:fN 84 c=J:=by have:=asz;rw[hb]at this;exact this
 exact asv (args:=[v,w,au txt]) Tryz.func3 hb Tryz.ntmps3 Y f asA Tryz.results3 (λr h' z g ⟨i,j,k⟩ l m=>asB i j k l m) u
section
open Go.ChangeShapes Go.WideShapes
section
variable{H:Type}{enc:ta×o5->H}{P:tb}{W:tg}{cz:Nat->Bool}{held:Bool}{fuel:Nat}{t e:ta}{cs:List o5}{x:avC H×List axa}
def BE{α β:Type}{f:α->β}:∀{l:List β},(∀r∈l,∃a,r=f a)->∃m:List α,l=m.map f
 | [],_=>⟨[],rfl⟩
 |r::l,h=>by obtain⟨a,rfl⟩:=h r Y;obtain⟨m,rfl⟩:=BE (l:=l) λq b=>h q (by simp[b]);exact⟨a::m,rfl⟩
def NU{α:Type}{R:o5->α->Prop}:∀{l:List (List o5)},(∀r∈l,∃v a,r=[v]/\R v a)->∃(vs:List o5) (m:List α),l=vs.map (λx=>[x])/\qS R vs m
 | [],_=>⟨[],[],rfl,rfl,λi x y h=>by simp at h⟩
 |r::l,h=>by
  obtain⟨v,a,rfl,d⟩:=h r Y;obtain⟨vs,m,rfl,h1,f⟩:=NU (l:=l) λq e=>h q (by simp[e]);refine⟨v::vs,a::m,rfl,by simp[h1],λi x y c b=> ?_⟩;cases i with
  |zero=>simp at c b;subst c b;exact d
  |succ i=>simp at c b;exact f i x y c b
def NV{α β:Type}{f:α->Option β}:∀{l:List α} {m:List β},l.mapM f=C m->∀(i:Nat) (a:α),l[i]? =C a->f a=m[i]? /\m.length=l.length
 | [],m,_,i,a,h=>by simp at h
 |b::l,m,e,i,a,h=>by
  rw[List.mapM_cons]at e;cases hb:f b with
  |none=>rw[hb]at e;cases e
  |some y=>
   cases d:l.mapM f with
   |none=>rw[hb,d]at e;cases e
   |some dG=>
    rw[hb,d]at e;cases e;have g:dG.length=l.length:=by
     cases l with
     |nil=>cases d;rfl
     |cons c l=>exact(NV d 0 c rfl).2
    cases i with
    |zero=>simp at h;subst h;exact⟨by simp[hb],by simp[g]⟩
    |succ i=>simp at h;exact⟨by simpa using(NV d i a h).1,by simp[g]⟩
def Gu{a:Addr}{n:Nat}{l:List o5}(h:W.cells? 0 a n=C l):l.length=n/\∀j,j<n->W.cell? (a.add j)=l[j]? :=by
 unfold World.cells? at h;rw[if_pos (Nat.zero_le _)]at h;have c:∀j,j<n->W.cell? (a.add j)=l[j]? /\l.length=(atG n).length:=λj b=>NV h j j (by simp[b]);refine⟨?_,λj b=>(c j b).1⟩;cases n with
 |zero=>cases h;rfl
 |succ n=>simpa using(c 0 U).2
def zw{aU:Nat}(A:P.underlying t=C (.slice e))(hc:P.cellsOf e=aU)(B:0<aU)(h:aup enc P W 0 cz held fuel t cs=C x):∃v rows n,cs=[v]/\dE (fM W) v aU rows/\∀r∈rows,∃y,r.length=aU/\aup enc P W 0 cz held n e r=C y:=by
 rcases DataW.trod_slice A h with⟨rfl,_⟩|⟨a,l,F,K,rest,n,_,rfl,_,_,H,_,L,m,_⟩
 .exact⟨_,[],0,rfl,⟨o0,0,0,0,rfl,rfl,.inl rfl⟩,λr d=>by simp at d⟩
 .rw[hc]at m;have key:∀i,i<l->∃r y,W.cells? 0 (a.add (i*aU)) aU=C r/\aup enc P W 0 cz held n e r=C y:=λi hi=>by
   have:=m i hi;rw[Q4 U]at this;cases p:W.cells? 0 (a.add (i*aU)) aU with
   |none=>rw[p]at this;cases this
   |some r=>rw[p]at this;exact⟨r,_,rfl,this⟩
  refine⟨_,(atG l).map λi=>(W.cells? 0 (a.add (i*aU)) aU).getD [],n,rfl,⟨C a,a.off,l,F,rfl,Y,?_⟩,λr d=> ?_⟩
  .rcases Nat.eq_zero_or_pos l with h0|h0
   .exact .inl h0
   .right;obtain⟨r,y,d,_⟩:=key 0 h0;have g:=(Gu d).2 0 B;rw[Q4 (by have:=(Gu d).1;omega)]at g;have hs:a.spot=o0:=by simpa[Addr.add]using World.cell?_spot g
    obtain⟨b,o,s⟩:=a;simp only at hs;subst hs;refine⟨b,rfl,?_⟩;unfold World.cell? at g;simp only[kU,Nat.zero_mul,Nat.add_zero]at g;split at g
    .rename_i c q f hb;refine⟨c,q,f,J,by simp[fM,hb],λi M hi j z u=> ?_⟩;rw[aw1]at hi;by_cases w:i<l
     .obtain⟨I,N,k,_⟩:=key i w;rw[List.getElem?_range w]at hi;simp only[avb,k,auS,W6]at hi;subst hi;obtain⟨Q,G⟩:=Gu k;have D:j<aU:=by have:=(F1.1 u).1;omega
      have:=G j D;unfold World.cell? at this;simp only[kU,hb]at this;rw[u]at this;simpa using this
     .rw[au6 atB]at hi;cases hi
    .cases g
  .obtain⟨i,hi,rfl⟩:=List.mem_map.1 d;obtain⟨r,y,k,E⟩:=key i (au9.1 hi);rw[k,auS];exact⟨y,(Gu k).1,E⟩
end
section
variable{H:Type}{enc:ta×o5->H}{W:tg}{cz:Nat->Bool}{held:Bool}{fuel:Nat}{cs:List o5}{x:avC H×List axa}
def c3:pv.cellsOf 3=1:=O
def dk:pv.cellsOf 9=1:=O
def asD:pv.cellsOf 22=1:=O
def asE:pv.cellsOf 23=1:=O
def asF:pv.cellsOf 25=4:=O
def asG:pv.cellsOf 26=1:=O
def asH:pv.cellsOf 27=1:=O
def asI:pv.cellsOf 29=2:=O
def asJ:pv.cellsOf 44=1:=O
def asK:pv.cellsOf 46=1:=O
def asL:pv.cellsOf 47=1:=O
def asM:pv.cellsOf 49=1:=O
def asN:pv.cellsOf 51=4:=O
def asO:pv.cellsOf 53=4:=O
def asP:pv.cellsOf 63=2:=O
def zx{fs:Array Field}{t:ta}{L:List (ta×Nat)}(c:pv.underlying t=C (.struct fs))(d:fs.toList.map (λf=>(f.type,f.offset))=L)(h:aup enc pv W 0 cz held fuel t cs=C x):∀(i:Nat) (ft:ta) (b:Nat),L[i]? =C (ft,b)->∃n y,aup enc pv W 0 cz held n ft ((cs.drop b).take (pv.cellsOf ft))=C y:=by
 obtain⟨xs,n,_,_,_,j,g⟩:=DataW.trod_struct c h;intro i ft b e;rw[<- d,aw1]at e;cases a:fs.toList[i]? with
 |none=>rw[a]at e;cases e
 |some f=>
  rw[a]at e;simp only[avb,W6,Prod.mk.injEq]at e;obtain⟨rfl,rfl⟩:=e;have hi:i<xs.length:=by rw[j];simpa using(F1.1 a).1
  have:=g i f (by simpa using a);rw[Q4 hi]at this;exact⟨n,_,this⟩
def vp(h:aup enc pv W 0 cz held fuel 3 cs=C x):∃n,cs=[bO n]:=by obtain⟨n,e,_⟩:=aCP axz h;exact⟨n,e⟩
def asQ(h:aup enc pv W 0 cz held fuel 9 cs=C x):∃l,cs=[au l]:=by obtain⟨s,e,_⟩:=DataW.trod_string awi h;exact⟨s.data.toList,e⟩
def asR(h:aup enc pv W 0 cz held fuel 44 cs=C x):∃v l,cs=[v]/\ig (fM W) v l:=by obtain⟨v,d,n,rfl,hs,a⟩:=zw Tryz.underlying44 c3 aty h;obtain⟨l,rfl⟩:=BE (f:=λi=>[bO i]) λr b=>let⟨y,_,c⟩:=a r b;vp c;exact⟨v,l,rfl,hs⟩
def asS(h:aup enc pv W 0 cz held fuel 47 cs=C x):∃v l,cs=[v]/\rW (fM W) v l:=by
 obtain⟨v,q,n,rfl,hs,g⟩:=zw Tryz.underlying47 asP aty h;obtain⟨l,rfl⟩:=BE (f:=λp:Int×Int=>[bO p.1,bO p.2]) λr k=>by
  obtain⟨y,m,o⟩:=g r k;have c:=zx (L:=[(3,0),(3,1)]) Tryz.underlying63 rfl o
  match r,m with
  | [a,b],_=>obtain⟨_,_,d⟩:=c 0 _ _ rfl;obtain⟨_,_,da⟩:=c 1 _ _ rfl;simp only[c3,avA,av9,avJ,axC]at d da;obtain⟨i,e0⟩:=vp d;obtain⟨j,e⟩:=vp da;simp only[awv,and_true]at e0 e;exact⟨(i,j),by rw[e0,e]⟩
 exact⟨v,l,rfl,hs⟩
def asT(h:aup enc pv W 0 cz held fuel 22 cs=C x):∃v l,cs=[v]/\yG (fM W) v l:=by
 obtain⟨v,m,n,rfl,hs,c⟩:=zw Tryz.underlying22 asK aty h;obtain⟨k,l,rfl,d⟩:=NU (R:=ig (fM W)) λr f=>by
  obtain⟨y,g,i⟩:=c r f;have j:=zx (L:=[(44,0)]) Tryz.underlying46 rfl i
  match r,g with
  | [a],_=>obtain⟨_,_,b⟩:=j 0 _ _ rfl;simp only[asJ,avA,avJ,axC]at b;obtain⟨v,l,e,q⟩:=asR b;exact⟨v,l,e,q⟩
 exact⟨v,l,rfl,k,hs,d⟩
def asU(h:aup enc pv W 0 cz held fuel 23 cs=C x):∃v l,cs=[v]/\yH (fM W) v l:=by
 obtain⟨v,m,n,rfl,hs,c⟩:=zw Tryz.underlying23 asM aty h;obtain⟨k,l,rfl,d⟩:=NU (R:=rW (fM W)) λr f=>by
  obtain⟨y,g,i⟩:=c r f;have j:=zx (L:=[(47,0)]) Tryz.underlying49 rfl i
  match r,g with
  | [a],_=>obtain⟨_,_,b⟩:=j 0 _ _ rfl;simp only[asL,avA,avJ,axC]at b;obtain⟨v,l,e,q⟩:=asS b;exact⟨v,l,e,q⟩
 exact⟨v,l,rfl,k,hs,d⟩
def XY{fs:Array Field}{t:ta}(p:pv.underlying t=C (.struct fs))(q:fs.toList.map (λf=>(f.type,f.offset))=[(9,0),(3,1),(3,2),(3,3)])(r:cs.length=4)(h:aup enc pv W 0 cz held fuel t cs=C x):∃l a b c,cs=[au l,bO a,bO b,bO c]:=by
 have key:=zx p q h
 match cs,r with
 | [a,b,c,d],_=>obtain⟨_,_,e⟩:=key 0 _ _ rfl;obtain⟨_,_,da⟩:=key 1 _ _ rfl;obtain⟨_,_,dQ⟩:=key 2 _ _ rfl;obtain⟨_,_,g⟩:=key 3 _ _ rfl;simp only[c3,dk,avA,av9,avJ,axC]at e da dQ g;obtain⟨l,e0⟩:=asQ e;obtain⟨i,m⟩:=vp da;obtain⟨j,n⟩:=vp dQ;obtain⟨k,o⟩:=vp g;simp only[awv,and_true]at e0 m n o;exact⟨l,i,j,k,by rw[e0,m,n,o]⟩
def asV(h:aup enc pv W 0 cz held fuel 26 cs=C x):∃v l,cs=[v]/\L8 (fM W) v l:=by
 obtain⟨v,k,n,rfl,hs,d⟩:=zw Tryz.underlying26 asN aty h;obtain⟨l,rfl⟩:=BE (f:=λs:fU=>[au s.name,bO s.cX,bO s.size,bO s.gS]) λr g=>by obtain⟨y,i,j⟩:=d r g;obtain⟨l,a,b,c,e⟩:=XY Tryz.underlying51 rfl i j;exact⟨⟨l,a,b,c⟩,e⟩
 exact⟨v,l,rfl,hs⟩
def asW(h:aup enc pv W 0 cz held fuel 27 cs=C x):∃v l,cs=[v]/\L9 (fM W) v l:=by
 obtain⟨v,k,n,rfl,hs,d⟩:=zw Tryz.underlying27 asO aty h;obtain⟨l,rfl⟩:=BE (f:=λs:fV=>[au s.name,bO s.size,bO s.ff,bO s.cX]) λr g=>by obtain⟨y,i,j⟩:=d r g;obtain⟨l,a,b,c,e⟩:=XY Tryz.underlying53 rfl i j;exact⟨⟨l,a,b,c⟩,e⟩
 exact⟨v,l,rfl,hs⟩
def asX{r:Reach}{b0:Nat}{v:o5}{d:avC H}{bc:List axa}(o:Value.okWide pv W r b0 25 v)(h:azl enc pv W 0 cz held 25 v d bc):∃x,k7 (fM W) v x:=by
 obtain⟨cs,rfl,f⟩:=okWide_struct ay1 o;rw[asF]at f;obtain⟨fuel,h⟩:=h;have e:=zx (L:=[(22,0),(23,1),(3,2),(3,3)]) ay1 rfl h;obtain⟨_,_,g⟩:=e 0 _ _ rfl;obtain⟨_,_,da⟩:=e 1 _ _ rfl;obtain⟨_,_,dQ⟩:=e 2 _ _ rfl;obtain⟨_,_,k⟩:=e 3 _ _ rfl;obtain⟨p⟩:=cs
 match p,f with
 | [a,b,c,d],_=>simp only[Value.cells,c3,asD,asE,avA,av9,avJ,axC]at g da dQ k;obtain⟨w,u,e0,q⟩:=asT g;obtain⟨y,s,l,t⟩:=asU da;obtain⟨i,m⟩:=vp dQ;obtain⟨j,n⟩:=vp k;simp only[awv,and_true]at e0 l m n;subst e0 l m n;exact⟨⟨u,s,i,j⟩,_,_,rfl,q,t⟩
def asY{r:Reach}{b0:Nat}{v:o5}(a:Value.okWide pv W r b0 9 v):∃l,v=au l:=by obtain⟨s,rfl⟩:=okWide_string awi a;exact⟨s.data.toList,rfl⟩
def asZ{r:Reach}{b0:Nat}{v:o5}{d:avC H}{bc:List axa}(i:Value.okWide pv W r b0 29 v)(h:azl enc pv W 0 cz held 29 v d bc):∃x,kL (fM W) v x:=by
 obtain⟨cs,rfl,c⟩:=okWide_struct aAm i;rw[asI]at c;obtain⟨fuel,h⟩:=h;have e:=zx (L:=[(26,0),(27,1)]) aAm rfl h;obtain⟨_,_,f⟩:=e 0 _ _ rfl;obtain⟨_,_,da⟩:=e 1 _ _ rfl;obtain⟨j⟩:=cs
 match j,c with
 | [a,b],_=>simp only[Value.cells,asG,asH,avA,av9,avJ,axC]at f da;obtain⟨o,n,e0,k⟩:=asV f;obtain⟨p,l,g,m⟩:=asW da;simp only[awv,and_true]at e0 g;subst e0 g;exact⟨⟨n,l⟩,_,_,rfl,k,m⟩
end
end
section
open Go.ChangeShapes Go.WideShapes Go.Proofs.YthgephlghkjiaaaGreatDoor
def as0:((begin pv (λ_ _=>0) default).world.heap[0]?).bind Obj.row? =C (#[.nilFunc,.nilFunc,.nilFunc],145):=O
def as1:((begin pv (λ_ _=>0) default).world.heap[1]?).bind Obj.row? =C (#[.nilFunc,.nilFunc],147):=O
def as2:((begin pv (λ_ _=>0) default).world.heap[4]?).bind Obj.row? =C (Array.replicate 20 (.int .u64 0),297):=O
def as3:((begin pv (λ_ _=>0) default).world.heap[5]?).bind Obj.row? =C (#[.int .i64 0],3):=O
def w8:pv.globals.size=12:=O
def XZ:pv.globalNamed "nock/butt.bossChecks" =C 0:=O
def X0:pv.globalNamed "nock/butt.groundChecks" =C 1:=O
def X1:pv.globalNamed "internal/strconv.uint64pow10" =C 4:=O
def as4:(pv.globals[0]?).map (·.type)=C 145:=O
def as5:(pv.globals[1]?).map (·.type)=C 147:=O
def as6:(pv.globals[4]?).map (·.type)=C 297:=O
def as7:pv.cellsOf 144=1:=O
def as8:pv.cellsOf 146=1:=O
def as9:pv.buildable 3=J:=O
def ata:pv.cellTypes pv.depth 3=C [3]:=O
def atb:∃e,pv.underlying 297=C (.array 20 e)/\pv.cellsOf e=1/\pv.underlying e=C (.int .u64):=⟨206,O,O,O⟩
def NW{H:Type}{enc:ta×o5->H}{P:tb}{W:tg}{cz:Nat->Bool}{held:Bool}{fuel:Nat}{t e:ta}{cs:List o5}{n:Nat}{ds:List (avC H)}{p:List axa}
  (c:P.underlying t=C (.array n e)) (hc:P.cellsOf e=1) (o:cs.length=n) (h:aup enc P W 0 cz held fuel t cs=C (.agg ds,p)):
  ∀(i:Nat) d,ds[i]? =C d->∃v m q,cs[i]? =C v/\aup enc P W 0 cz held m e [v]=C (d,q):=by
 obtain⟨xs,m,_,j,_,f,g⟩:=DataW.trod_array c h;intro i d hd;have k:ds=xs.map (·.1):=(DataW.agg.inj (Prod.mk.inj j).1);rw[k,aw1]at hd;cases a:xs[i]? with
 |none=>rw[a]at hd;cases hd
 |some y=>
  rw[a]at hd;have hi:i<n:=by rw[<- f];exact(F1.1 a).1
  have:=g i hi;rw[hc,Nat.mul_one,a]at this;have b:i<cs.length:=U
  have l:(cs.drop i).take 1=[cs[i]]:=by rw[List.drop_eq_getElem_cons b];rfl
  rw[l]at this;cases hd;exact⟨cs[i],m,y.2,Q4 b,this⟩
variable{W:tg}
def BF{n:String}{g:Nat}{t:ta}{cs b:Array o5}(c:pv.globalNamed n=C g)(d:W.heap[g]? =C (.cells cs t))(a:W.var? pv n=C b):b=cs:=by unfold World.var? at a;rw[c,Option.bind_some,d]at a;exact(T6 a).symm
def atc:((begin pv (λ_ _=>0) default).world.heap[2]?).bind Obj.row? =C (#[.nilIface],176):=O
def atd:((begin pv (λ_ _=>0) default).world.heap[3]?).bind Obj.row? =C (#[.nilIface],91):=O
def ate:pv.globalNamed "errors.errorType" =C 2:=O
def X2:pv.globalNamed "nock/butt.errForm" =C 3:=O
def atf:(pv.globals[3]?).map (·.type)=C 91:=O
def atg:(pv.cutTypes.find? (·.1== "internal/reflectlite.rtype")).map (·.2)=C 235:=O
def ath:((atG pv.types.size).all λt=> !pv.rowNamed t [101,114,114,111,114]||t==91)=J:=O
def ati{H:Type}{enc:ta×o5->H}{P:tb}{W:tg}{cz:Nat->Bool}{held:Bool}{fuel:Nat}{t:ta}{cs:List o5}{x:avC H×List axa}{ms:Array (String×ta)}
  (a:P.underlying t=C (.interface ms)) (h:aup enc P W 0 cz held fuel t cs=C x) (b:x.1≠.nil):∃u v,cs=[.iface u v]:=by
 cases fuel with
 |zero=>simp[aup]at h
 |succ n=>unfold aup at h;rw[a]at h;split at h<;>simp_all;exact b (by rw[<- h])
def atj(hs:W.ShapedOpen pv)(q:laidMetH pv Rows.buttTextsRow.laid W):(vo (fM W)/\nR (fM W)/\oH (fM W))/\pf (fM W)/\ve (fM W):=by
 refine⟨?_,?_,?_⟩
 rotate_left
 .obtain⟨k3,A,eZ,_⟩:=hs.1 3 _ _ (by rw[w8];decide) atd;obtain⟨g,t,cs,fuel,p,j,k,h,hd⟩:=Lib.laidMet.reads (aA0.1 q).1 (n:= "nock/butt.errForm") (d:=Rows.laid_nock_butt_errForm) (aw0.2 ⟨by simp only[Rows.buttTextsRow,B4];simp,O⟩);obtain rfl:=T6 (X2.symm.trans j);obtain rfl:=T6 (atf.symm.trans k);obtain rfl:=BF X2 A h;obtain⟨ms,I⟩:=Bb;obtain⟨u,v,x⟩:=ati I hd (by simp[Rows.laid_nock_butt_errForm]);obtain⟨o⟩:=cs;simp only at x;subst x;exact⟨u,v,91,(0,0),J,by simp[fM,A]⟩
 .obtain⟨k2,B,z2,_⟩:=hs.1 2 _ _ (by rw[w8];decide) atc;have hh:=(aA0.1 q).2 ("errors.errorType",Rows.laid_errors_errorType) (aw0.2 ⟨by simp only[Rows.buttTextsRow,B4];simp,O⟩);obtain⟨name,u,ty,f,l,e3,e4,h⟩:=hh;have K:C [101,114,114,111,114]=C name:=f;cases K;obtain rfl:=T6 (atg.symm.trans l);have w:=List.all_eq_true.1 ath ty (au9.2 e3);rw[e4]at w;have w:ty=91:=by simpa using w
  subst w;obtain rfl:=BF ate B h;exact⟨176,(0,0),J,by simp[fM,B,typeHandle,w8]⟩
 obtain⟨k0,D,E,_⟩:=hs.1 0 _ _ (by rw[w8];decide) as0;obtain⟨k1,F,y,_⟩:=hs.1 1 _ _ (by rw[w8];decide) as1;obtain⟨k4,G,nM,_⟩:=hs.1 4 _ _ (by rw[w8];decide) as2;obtain⟨L,M,qN,N⟩:=hs.1 5 _ _ (by rw[w8];decide) as3;refine⟨⟨⟨J,?_⟩,J,?_⟩,?_,?_⟩
 .obtain⟨g,t,cs,fuel,p,j,k,h,hd⟩:=q.funcs (n:= "nock/butt.bossChecks") (d:=.agg [.iface "func" (.lit (.string [40,110,111,99,107,47,98,117,116,116,46,98,111,115,115,41,46,108,97,121,101,114,115])),.iface "func" (.lit (.string [40,110,111,99,107,47,98,117,116,116,46,98,111,115,115,41,46,115,101,115,115,105,111,110,115])),.iface "func" (.lit (.string [40,110,111,99,107,47,98,117,116,116,46,98,111,115,115,41,46,110,117,109,98,101,114,115]))])
   (by simp only[Rows.buttTextsRow,B4,Rows.laid_nock_butt_bossChecks];simp)
  obtain rfl:=T6 (XZ.symm.trans j);obtain rfl:=T6 (as4.symm.trans k);obtain rfl:=BF XZ D h;have i:=NW Tryz.underlying145 as7 (by simpa using E) hd;obtain⟨v0,_,_,e0,r⟩:=i 0 _ rfl;obtain⟨v1,_,_,f,bZ⟩:=i 1 _ rfl;obtain⟨v2,_,_,l,cU⟩:=i 2 _ rfl;obtain rfl:=ayh (f0:=275) aA1 O r;obtain rfl:=ayh (f0:=276) aA1 O bZ;obtain rfl:=ayh (f0:=277) aA1 O cU;obtain⟨o⟩:=cs
  match o,E with
  | [a,b,c],_=>simp at e0 f l;subst e0 f l;simp[fM,D,dO]
 .obtain⟨g,t,cs,fuel,p,j,k,h,hd⟩:=q.funcs (n:= "nock/butt.groundChecks") (d:=.agg [.iface "func" (.lit (.string [40,110,111,99,107,47,98,117,116,116,46,103,114,111,117,110,100,41,46,115,116,97,110,100,115])),.iface "func" (.lit (.string [40,110,111,99,107,47,98,117,116,116,46,103,114,111,117,110,100,41,46,97,114,99,104,101,114,115]))])
   (by simp only[Rows.buttTextsRow,B4,Rows.laid_nock_butt_groundChecks];simp)
  obtain rfl:=T6 (X0.symm.trans j);obtain rfl:=T6 (as5.symm.trans k);obtain rfl:=BF X0 F h;have i:=NW Tryz.underlying147 as8 (by simpa using y) hd;obtain⟨v0,_,_,e0,r⟩:=i 0 _ rfl;obtain⟨v1,_,_,f,bZ⟩:=i 1 _ rfl;obtain rfl:=ayh (f0:=289) aCR O r;obtain rfl:=ayh (f0:=250) aCR O bZ;obtain⟨o⟩:=cs
  match o,y with
  | [a,b],_=>simp at e0 f;subst e0 f;simp[fM,F,dO]
 .obtain⟨g,t,cs,fuel,p,j,k,h,hd⟩:=Lib.laidMet.reads (aA0.1 q).1 (n:= "internal/strconv.uint64pow10") (d:=Rows.laid_internal_strconv_uint64pow10) (aw0.2 ⟨by simp only[Rows.buttTextsRow,B4];simp,O⟩);obtain rfl:=T6 (X1.symm.trans j);obtain rfl:=T6 (as6.symm.trans k);obtain rfl:=BF X1 G h;obtain⟨e,P,Q,R⟩:=atb;have i:=NW P Q (by simpa using nM) hd;refine⟨cs,297,(0,0),J,by simp[fM,G],λd S=> ?_⟩;have key:∀n:Nat,(((Rows.laid_internal_strconv_uint64pow10:avC Unit):avC Unit)=Rows.laid_internal_strconv_uint64pow10)->∀z:Int,(match(Rows.laid_internal_strconv_uint64pow10:avC Unit)with|.agg ds=>ds[n]? =C (.lit (.int .u64 z))|_=>False)->cs[n]? =C (.int .u64 z):=λn _ z X=>by obtain⟨v,_,_,e0,r⟩:=i n _ X;obtain⟨m,f,l,_⟩:=aCP R r;simp only[Prod.mk.injEq,DataW.lit.injEq,Lit.int.injEq,true_and]at l;simp only[awv,and_true]at f;rw[f,<- l.1]at e0;simpa using e0
  match d,S with
  | 0,_=>exact key 0 rfl 1 rfl
  | 1,_=>exact key 1 rfl 10 rfl
  | 2,_=>exact key 2 rfl 100 rfl
  | 3,_=>exact key 3 rfl 1000 rfl
  | 4,_=>exact key 4 rfl 10000 rfl
 .obtain⟨dD,f,_,hc⟩:=N as9;obtain rfl:=T6 (ata.symm.trans f);obtain⟨o⟩:=L
  match o,qN with
  | [a],_=>obtain⟨u,H,s⟩:=hc 0 a rfl;simp at H;subst H;unfold Cell.ok at s;rw[axz]at s;cases a<;>simp at s;obtain⟨rfl,_⟩:=s;exact⟨_,3,(0,0),J,by simp[fM,M];rfl⟩
end
end
end Go.Nk
