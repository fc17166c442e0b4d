/- Part Pab of the proof of ButtBack: lemmas. -/
import Derived.Conc.LockTrace
import Derived.Test.YthgephlghkjiaaaGreatDoorPaa
set_option maxRecDepth 100000
set_option maxHeartbeats 4000000
set_option linter.all false
namespace Go.Nk
noncomputable section
open Go Go.Conc Go.Proofs
section
open Go.ConcN (fork_knows Deaf_absent)
def blk:Loc->Option Nat
 | .cell a=>some a.block
 | .obj r=>some r
 | _=>none
def q7(t:Trace)(g b:Nat):Prop:=∀i a,touchAt t i=some a->blk a.loc=some b->Knows t g i
def zy(t:Trace)(g b:Nat):Prop:=∀i a,touchAt t i=some a->blk a.loc=some b->a.write=true->Knows t g i
def GL(mu:Addr)(bW:Nat->Prop)(t:Trace)(b:Nat):Prop:=∀i a,touchAt t i=some a->blk a.loc=some b->(∀g,bW g->Knows t g i)\/∃p,t.act? p=some (.mark (.releaseMerge mu))/\t.heard p/\Before t i p
theorem q7.w{t:Trace}{g b:Nat}(h:q7 t g b):zy t g b:=fun i a e f _=>h i a e f
theorem q7.app{t u:Trace}{g b:Nat}(h:q7 t g b)(hu:∀op∈u,∀x,op.act.touch? =some x->blk x.loc=some b->op.g=g):q7 (t++u) g b:=by
 intro i a aA af;obtain ⟨x,aa,sC⟩:=touch_of aA;rcases getElem?_append_cases aa with ⟨hi,gl⟩|⟨_,CR⟩
 ·exact (h i a (by rw [touchAt_of gl];exact sC) af).app u
 ·have:=knows_own aa
  rwa [hu x CR a sC af] at this
theorem zy.app{t u:Trace}{g b:Nat}(h:zy t g b)(hu:∀op∈u,∀x,op.act.touch? =some x->blk x.loc=some b->x.write=true->op.g=g):zy (t++u) g b:=by
 intro i a aA af hw;obtain ⟨x,aa,sC⟩:=touch_of aA;rcases getElem?_append_cases aa with ⟨hi,gl⟩|⟨_,CR⟩
 ·exact (h i a (by rw [touchAt_of gl];exact sC) af hw).app u
 ·have:=knows_own aa
  rwa [hu x CR a sC af hw] at this
theorem GL.app{mu:Addr}{bW:Nat->Prop}{t u:Trace}{b:Nat}(h:GL mu bW t b)(hu:∀op∈u,∀x,op.act.touch? =some x->blk x.loc≠some b):GL mu bW (t++u) b:=by
 intro i a aA af;obtain ⟨x,aa,sC⟩:=touch_of aA;rcases getElem?_append_cases aa with ⟨hi,gl⟩|⟨_,CR⟩
 ·rcases h i a (by rw [touchAt_of gl];exact sC) af with hk|⟨p,h1,h2,h3⟩
  ·exact .inl fun g aG=>(hk g aG).app u
  ·have aK:=lt_of_act? h1;exact .inr ⟨p,by rw [act?_old aK];exact h1,(heard_old aK).2 h2,h3.app u⟩
 ·exact absurd af (hu x CR a sC)
theorem Tv{x:MemAct}{B b:Nat}{a:Touch}(h:x.low B)(e:x.touch? =some a)(hb:blk a.loc=some b):b<B:=by
 cases x with
 | access aS=>
  simp only [MemAct.touch?,Option.some.injEq] at e;subst e;simp only at hb;simp only [MemAct.low] at h;cases af:aS.loc<;>rw [af] at hb h<;>simp [blk] at hb<;>subst hb<;>exact h
 | mark m=>
  cases m<;>simp [MemAct.touch?] at e<;>subst e<;>simp [blk] at hb<;>subst hb<;>exact h
 | _=>simp [MemAct.touch?] at e
section
variable(own ro:Nat->Nat->Prop)(bk sh:Nat->Prop)(mu:Addr)(bW:Nat->Prop)
structure Ck:Prop where
 one:∀i j b,own i b->own j b->i=j
 mQ:∀i j b,own i b->¬ro j b
 nA:∀i b,own i b->¬bk b
 ownSh:∀i b,own i b->¬sh b
 rf:∀i b,ro i b->¬bk b
 n7:∀i b,ro i b->¬sh b
 tE:∀b,bk b->¬sh b
structure iS(n B:Nat)(t:Trace):Prop where
 clean:∀said,¬Race said t
 gs:∀(i:Nat) (op:MemOp),t[i]? =some op->op.g<n
 low:∀op∈t,op.act.low B
 own:∀i b,i<n->own i b->q7 t i b
 ro:∀i b,i<n->ro i b->zy t i b
 bk:∀b,bk b->GL mu bW t b
 quiet:Quiet (fun l=>∃b,blk l=some b/\sh b) t
 plain:∀(i:Nat) (op:MemOp) (x:Touch),t[i]? =some op->op.act.touch? =some x->∃b,blk x.loc=some b/\(sh b\/x.kind=.plain)
 norel:NoRelease mu t
def O4(g:Nat)(op:MemOp):Prop:=
 op.g=g/\op.act≠.mark (.release mu)/\∀x,op.act.touch? =some x->∃b,blk x.loc=some b/\((sh b/\x.kind≠.plain/\(x.kind=.said->g=0))\/((own g b\/(ro g b/\x.write=false))/\x.kind=.plain))
end
section
variable{own fr ro tX:Nat->Nat->Prop}{bk gd' sh aAR:Nat->Prop}{mu:Addr}{bW mo:Nat->Prop}{n B RJ g:Nat}{t u:Trace}
theorem iS.weaken(h:iS own ro bk sh mu bW n B t)(aQ:∀i b,fr i b->own i b)(al:∀i b,tX i b->own i b\/ro i b):iS fr tX bk sh mu bW n B t:=
 {h with own:=fun i b hi e=>h.own i b hi (aQ i b e),ro:=fun i b hi e=>(al i b e).elim (fun x=>(h.own i b hi x).w) (h.ro i b hi)}
theorem iS.app(h:iS own ro bk sh mu bW n B t)(aG:g<n)(dM:B<=RJ)(E:Ck fr tX bk sh)
  (aQ:∀i b,fr i b->own i b\/(i=g/\B<=b)) (al:∀i b,tX i b->ro i b) (hu:∀op∈u,O4 fr tX sh mu g op/\op.act.low RJ):iS fr tX bk sh mu bW n RJ (t++u):=by
 have fresh:∀i b,fr i b->own i b\/(i=g/\q7 t i b):=fun i b e=>(aQ i b e).imp id fun ⟨e1,e2⟩=>⟨e1,fun k a aA hb=>by
  obtain ⟨x,aa,sC⟩:=touch_of aA;have:=Tv (h.low x (Array.mem_of_getElem? aa)) sC hb;omega⟩
 have pb:∀i b,i<n->fr i b->q7 t i b:=fun i b hi e=>(fresh i b e).elim (h.own i b hi) (·.2);have aso:∀i b,i<n->fr i b->q7 (t++u) i b:=fun i b hi e=>(pb i b hi e).app fun op aF x aa hb=>by
  obtain ⟨⟨e1,_,e2⟩,_⟩:=hu op aF;obtain ⟨b9,dW,hc⟩:=e2 x aa;obtain rfl:b=b9:=by rw [hb] at dW;exact Option.some.inj dW
  rcases hc with ⟨hs,_⟩|⟨c9|⟨eu,_⟩,_⟩
  ·exact absurd hs (E.ownSh i b e)
  ·rw [e1];exact E.one g i b c9 e
  ·exact absurd eu (E.mQ i g b e)
 refine ⟨fun said=>noRace_append (h.clean said) (fun op aF=>(hu op aF).1.1) fun i a aA op aF b hb hc=> ?_,fun i op hi=> ?_,fun op aF=> ?_,aso,fun i b hi e=>(h.ro i b hi (al i b e)).app fun op aF x aa hb hw=> ?_,fun b hb=>(h.bk b hb).app fun op aF x aa CS=> ?_,h.quiet.app fun op aF x aa hs=> ?_,fun i op x hi aa=> ?_,h.norel.app fun op aF=>(hu op aF).1.2.1⟩
 ·obtain ⟨⟨e1,_,e2⟩,_⟩:=hu op aF;obtain ⟨b9,dW,apD⟩:=e2 b hb;rcases apD with ⟨hs,hk,PS⟩|⟨c9|⟨eu,hw⟩,_⟩
  ·exact h.quiet.known (b:=b) ⟨b9,dW,hs⟩ hk PS i a aA hc
  ·exact pb g b9 aG c9 i a aA (by rw [hc.1];exact dW)
  ·exact h.ro g b9 aG (al g b9 eu) i a aA (by rw [hc.1];exact dW) (hc.2.2.1.resolve_right (by simp [hw]))
 ·rcases getElem?_append_cases hi with ⟨_,dt⟩|⟨_,xQ⟩
  ·exact h.gs i op dt
  ·rw [(hu op xQ).1.1];exact aG
 ·exact (Array.mem_append.1 aF).elim (fun x=>MemAct.low_mono dM (h.low op x)) fun x=>(hu op x).2
 ·obtain ⟨⟨e1,_,e2⟩,_⟩:=hu op aF;obtain ⟨b9,dW,hc⟩:=e2 x aa;obtain rfl:b=b9:=by rw [hb] at dW;exact Option.some.inj dW
  rcases hc with ⟨hs,_⟩|⟨c9|⟨_,qy⟩,_⟩
  ·exact absurd hs (E.n7 i b e)
  ·exact absurd e (E.mQ g i b c9)
  ·rw [qy] at hw;cases hw
 ·obtain ⟨⟨e1,_,e2⟩,_⟩:=hu op aF;obtain ⟨b9,dW,hc⟩:=e2 x aa;obtain rfl:b=b9:=by rw [CS] at dW;exact Option.some.inj dW
  rcases hc with ⟨hs,_⟩|⟨c9|⟨eu,_⟩,_⟩
  ·exact E.tE b hb hs
  ·exact E.nA g b c9 hb
  ·exact E.rf g b eu hb
 ·obtain ⟨⟨e1,_,e2⟩,_⟩:=hu op aF;obtain ⟨b,fv,lh⟩:=hs;obtain ⟨b9,dW,hc⟩:=e2 x aa;obtain rfl:b=b9:=by rw [fv] at dW;exact Option.some.inj dW
  rcases hc with ⟨_,hk,PS⟩|⟨c9|⟨eu,_⟩,_⟩
  ·exact ⟨hk,fun e=>e1.trans (PS e)⟩
  ·exact absurd lh (E.ownSh g b c9)
  ·exact absurd lh (E.n7 g b eu)
 ·rcases getElem?_append_cases hi with ⟨_,dt⟩|⟨_,xQ⟩
  ·exact h.plain i op x dt aa
  ·obtain ⟨b,hb,hc⟩:=(hu op xQ).1.2.2 x aa;exact ⟨b,hb,hc.imp (·.1) (·.2)⟩
theorem iS.acquire(h:iS own ro bk sh mu bW n B t)(E:Ck own ro bk sh){z:MemOp}(aG:z.g<n)(aH:z.act=.mark (.acquire mu))(hd:Deaf t z.g=0)(af:bW z.g)(rh:mu.block<B):
  iS (fun i b=>own i b\/(i=z.g/\bk b)) ro (fun _=>False) sh mu bW n B (t++#[z]):=by
 have ao:z.act.touch? =none:=by rw [aH];rfl
 have hb:=h.app (u:=#[z]) aG (Nat.le_refl _) E (fun i b e=>.inl e) (fun i b e=>e) (by
  intro op aF;simp at aF;subst aF;exact ⟨⟨rfl,by rw [aH];simp,fun x aa=>by rw [ao] at aa;cases aa⟩,by rw [aH];exact rh⟩)
 have aE:(t++#[z])[t.size]? =some z:=by simp
 refine {hb with own:=fun i b hi e=> ?_,bk:=fun b dW=>dW.elim};rcases e with e|⟨rfl,e⟩
 ·exact hb.own i b hi e
 ·intro i a aA sB;have m1:touchAt t i=some a:=Go.ConcM.old_touch ao aA;rcases h.bk b e i a m1 sB with hk|⟨p,h1,h2,h3⟩
  ·exact (hk z.g af).app _
  ·have aK:=lt_of_act? h1;have edge:HappensBefore (t++#[z]) p t.size:=.single (.inr ⟨.marked aK (.inr (by rw [act?_old aK];exact h1)) (by rw [act?_of aE,aH]) (fun k _ _=>hb.norel k),(heard_old aK).2 h2,⟨z.g,by simp [Trace.g?],by rw [deaf_old (Nat.le_refl _)];exact hd⟩⟩);exact ⟨t.size,z,aE,rfl,.inr ((h3.app #[z]).hb edge)⟩
theorem iS.release(h:iS own ro (fun _=>False) sh mu bW n B t){y:MemOp}(aG:y.g<n)(ax:y.act=.mark (.releaseMerge mu))(hd:Deaf t y.g=0)(rh:mu.block<B)(E:Ck own ro (fun _=>False) sh)(hK:∀b,gd' b->own y.g b):
  iS (fun i b=>own i b/\¬gd' b) ro gd' sh mu bW n B (t++#[y]):=by
 have ao:y.act.touch? =none:=by rw [ax];rfl
 have hb:=h.app (u:=#[y]) aG (Nat.le_refl _) E (fun i b e=>.inl e) (fun i b e=>e) (by
  intro op aF;simp at aF;subst aF;exact ⟨⟨rfl,by rw [ax];simp,fun x aa=>by rw [ao] at aa;cases aa⟩,by rw [ax];exact rh⟩)
 have aE:(t++#[y])[t.size]? =some y:=by simp
 refine {hb with own:=fun i b hi e=>hb.own i b hi e.1,bk:=fun b dW i a aA af=>.inr ⟨t.size,by rw [act?_of aE,ax],⟨y.g,by simp [Trace.g?],by rw [deaf_old (Nat.le_refl _)];exact hd⟩,.inr ?_⟩};exact (h.own y.g b aG (hK b dW) i a (Go.ConcM.old_touch ao aA) af).hb_new (Nat.le_refl _) aE rfl
theorem iS.fork(h:iS own ro bk sh mu bW n B t)(ao:0<n)(h00:bW 0){x y:MemOp}(aa:x.g=0/\x.act=.go n)(ax:y.g=n/\y.act=.start)(h0:Deaf t 0=0)
  (aQ:∀i b,i≠n->fr i b->own i b) (al:∀i b,i≠n->tX i b->own i b\/ro i b) (c9:∀b,fr n b->own 0 b) (eu:∀b,tX n b->own 0 b\/ro 0 b):iS fr tX bk sh mu (fun g=>bW g\/g=n) (n+1) B (t++#[x,y]):=by
 have hk:Deaf t n=0:=Deaf_absent fun i op hi e=>by have:=h.gs i op hi;omega
 have hm:∀op∈#[x,y],op=x\/op=y:=by intro op aF;simpa using aF
 have tY:∀op∈#[x,y],∀b,op.act.touch? =some b->False:=by
  intro op aF b hb;rcases hm op aF with rfl|rfl
  ·rw [aa.2] at hb;cases hb
  ·rw [ax.2] at hb;cases hb
 have old:∀{i:Nat} {b:Touch},touchAt (t++#[x,y]) i=some b->touchAt t i=some b:=by
  intro i b hb;obtain ⟨z,aH,H0⟩:=touch_of hb;rcases getElem?_append_cases aH with ⟨_,jy⟩|⟨_,auR⟩
  ·rw [touchAt_of jy];exact H0
  ·exact (tY z auR b H0).elim
 refine ⟨fun said=> ?_,fun i op hi=> ?_,fun op aF=> ?_,fun i b hi e=> ?_,fun i b hi e=> ?_,fun b hb i a aA af=> ?_,h.quiet.app fun op aF b hb _=>(tY op aF b hb).elim,fun i op c hi hc=> ?_,h.norel.app fun op aF=> ?_⟩
 ·have e:t++#[x,y]=(t++#[x])++#[y]:=by apply Array.ext';simp
  rw [e];refine noRace_append (g:=n) (noRace_append (g:=0) (h.clean said) (fun op aF=>by simp at aF;rw [aF];exact aa.1) (fun i b _ op aF c hc _=>(tY op (by simp at aF ⊢;exact .inl aF) c hc).elim))
   (fun op aF=>by simp at aF;rw [aF];exact ax.1) (fun i b _ op aF c hc _=>(tY op (by simp at aF ⊢;exact .inr aF) c hc).elim)
 ·rcases getElem?_append_cases hi with ⟨_,dt⟩|⟨_,xQ⟩
  ·exact Nat.lt_succ_of_lt (h.gs i op dt)
  ·rcases hm op xQ with rfl|rfl
   ·rw [aa.1];omega
   ·rw [ax.1];omega
 ·rcases Array.mem_append.1 aF with aF|aF
  ·exact h.low op aF
  ·rcases hm op aF with rfl|rfl
   ·rw [aa.2];trivial
   ·rw [ax.2];trivial
 ·by_cases dF:i=n
  ·subst dF;exact fun k a aA af=>fork_knows aa ax h0 hk (h.own 0 b ao (c9 b e) k a (old aA) af)
  ·exact (h.own i b (by omega) (aQ i b dF e)).app fun op aF c hc _=>(tY op aF c hc).elim
 ·by_cases dF:i=n
  ·subst dF;exact fun k a aA af hw=>fork_knows aa ax h0 hk ((eu b e).elim (fun z=>h.own 0 b ao z k a (old aA) af) fun z=>h.ro 0 b ao z k a (old aA) af hw)
  ·have:zy t i b:=(al i b dF e).elim (fun z=>(h.own i b (by omega) z).w) fun z=>h.ro i b (by omega) z;exact this.app fun op aF c hc _ _=>(tY op aF c hc).elim
 ·rcases h.bk b hb i a (old aA) af with hJ|⟨p,h1,h2,h3⟩
  ·refine .inl fun g aG=> ?_;rcases aG with aG|rfl
   ·exact (hJ g aG).app _
   ·exact fork_knows aa ax h0 hk (hJ 0 h00)
  ·have aK:=lt_of_act? h1;exact .inr ⟨p,by rw [act?_old aK];exact h1,(heard_old aK).2 h2,h3.app _⟩
 ·rcases getElem?_append_cases hi with ⟨_,dt⟩|⟨_,xQ⟩
  ·exact h.plain i op c dt hc
  ·exact (tY op xQ c hc).elim
 ·rcases hm op aF with rfl|rfl
  ·rw [aa.2];simp
  ·rw [ax.2];simp
theorem Vz{B:Nat}{a:Addr}(h:∀op∈t,op.act.low B)(dM:B<=a.block):NoRelease a t:=by
 intro i hi;obtain ⟨op,aQ,auS⟩:=Option.map_eq_some_iff.1 hi;have:=h op (Array.mem_of_getElem? aQ);rw [auS] at this;exact absurd this (Nat.not_lt.2 dM)
theorem iS.Oh{mu':Addr}(h:iS own ro (fun _=>False) sh mu bW n B t)(dM:B<=mu'.block):iS own ro (fun _=>False) sh mu' (fun g=>g=0) n B t:=
 {h with bk:=fun _ hb=>hb.elim,norel:=Vz h.low dM}
theorem iS.share{b0:Nat}(h:iS own ro bk sh mu bW n B t)(dM:B<=b0):iS own ro bk (fun b=>sh b\/b=b0) mu bW n (b0+1) t:=
 {h with
  low:=fun op aF=>MemAct.low_mono (Nat.le_succ_of_le dM) (h.low op aF)
  quiet:=fun i op x hi aa hs=>by
   obtain ⟨b,hb,hs⟩:=hs;rcases hs with hs|rfl
   ·exact h.quiet i op x hi aa ⟨b,hb,hs⟩
   ·have:=Tv (h.low op (Array.mem_of_getElem? hi)) aa hb;omega
  plain:=fun i op x hi aa=>(h.plain i op x hi aa).imp fun b hb=>⟨hb.1,hb.2.imp .inl id⟩}
theorem iS.Cl(h:iS own ro (fun _=>False) sh mu (fun g=>g=0) n B t)(ao:0<n)(hK:∀b,gd' b->own 0 b):iS (fun i b=>own i b/\¬gd' b) ro gd' sh mu (fun g=>g=0) n B t:=
 {h with
  own:=fun i b hi e=>h.own i b hi e.1
  bk:=fun b hb i a aA af=>.inl fun g aG=>by subst aG;exact h.own 0 b ao (hK b hb) i a aA af}
def wA(t:Trace)(i:Nat):Prop:=∀k,t.g? k=some i->t.counts k->Knows t 0 k
theorem wA.app{i:Nat}(h:wA t i)(hu:∀k,t.size<=k->(t++u).g? k=some i->¬(t++u).counts k):wA (t++u) i:=by
 intro k hk hc;rcases Nat.lt_or_ge k t.size with bY|iI
 ·exact (h k (by rw [<- g?_old (u:=u) bY];exact hk) ((counts_old bY).1 hc)).app u
 ·exact absurd hc (hu k iI hk)
inductive Jl where
 | wk|s5|jn
 deriving DecidableEq
structure s6(wg:Addr)(eE:Nat->Jl)(n:Nat)(t:Trace):Prop where
 norel:NoRelease wg t
 s5:∀i,0<i->i<n->eE i=.s5->∃r,Go.ConcN.RelBy wg t i r
 jn:∀i,0<i->i<n->eE i=.jn->wA t i
variable{wg:Addr}{eE H3:Nat->Jl}
theorem s6.app(h:s6 wg eE n t)(aG:∀op∈u,op.g=g)(ao:∀op∈u,op.act≠.mark (.release wg))(hc:0<g->eE g≠.wk->∀k,t.size<=k->(t++u).g? k=some g->¬(t++u).counts k):s6 wg eE n (t++u):=by
 have key:∀i,0<i->eE i≠.wk->∀k,t.size<=k->(t++u).g? k=some i->¬(t++u).counts k:=by
  intro i h0 hw k hk H4;by_cases ZG:i=g
  ·subst ZG;exact hc h0 hw k hk H4
  ·obtain ⟨op,aQ,ZH⟩:=Option.map_eq_some_iff.1 H4;rcases getElem?_append_cases aQ with ⟨bY,_⟩|⟨_,xR⟩
   ·omega
   ·exact absurd (ZH.symm.trans (aG op xR)) ZG
 exact ⟨h.norel.app ao,fun i h0 hi e=>(h.s5 i h0 hi e).imp fun r al=>al.app (key i h0 (by rw [e];simp)),fun i h0 hi e=>(h.jn i h0 hi e).app (key i h0 (by rw [e];simp))⟩
theorem acP(gs:∀(i:Nat) (op:MemOp),t[i]? =some op->op.g<n)(h:∀i,0<i->i<n->wA t i):t.HandedOver:=by
 intro i g aG b7 hc;obtain ⟨op,aQ,rfl⟩:=Option.map_eq_some_iff.1 aG;obtain ⟨q,z,h1,h2,h3⟩:=h op.g (by omega) (gs i op aQ) i aG hc;refine ⟨q,by simp [Trace.g?,h1,h2],?_⟩;rcases h3 with rfl|h3
 ·rw [aQ] at h1;cases h1;exact absurd h2 b7
 ·exact h3
theorem s6.join(h:s6 wg eE n t){z:MemOp}(ZI:z.g=0)(aH:z.act=.mark (.acquire wg))(hd:Deaf t 0=0){i:Nat}(h0:0<i)(hi:i<n)(hw:eE i≠.wk):wA (t++#[z]) i:=by
 have aE:(t++#[z])[t.size]? =some z:=by simp
 have new:∀k,t.size<=k->(t++#[z]).g? k=some i->¬(t++#[z]).counts k:=by
  intro k hk aG;obtain ⟨op,aQ,ZH⟩:=Option.map_eq_some_iff.1 aG;rcases getElem?_append_cases aQ with ⟨bY,_⟩|⟨_,xR⟩
  ·omega
  ·simp at xR;subst xR;omega
 cases AB:eE i with
 | wk=>exact absurd AB hw
 | jn=>exact (h.jn i h0 hi AB).app new
 | s5=>
  obtain ⟨r,al⟩:=h.s5 i h0 hi AB;have aK:=lt_of_act? al.act;have asp:NoRelease wg (t++#[z]):=h.norel.app fun op aF=>by simp at aF;subst aF;rw [aH];simp
  have edge:HappensBefore (t++#[z]) r t.size:=.single (.inr ⟨.marked aK (.inr (by rw [act?_old aK];exact al.act)) (by rw [act?_of aE,aH]) (fun k _ _=>asp k),(heard_old aK).2 al.heard,⟨0,by simp [Trace.g?,ZI],by rw [deaf_old (Nat.le_refl _)];exact hd⟩⟩);intro k hk hc;rcases Nat.lt_or_ge k t.size with bY|iI
  ·have hJ:t.g? k=some i:=by rw [<- g?_old (u:=#[z]) bY];exact hk
   have hle:k<=r:=Nat.le_of_not_lt fun af=>al.after k af hJ ((counts_old bY).1 hc);refine ⟨t.size,z,aE,ZI,.inr ?_⟩;rcases Nat.lt_or_ge k r with af|af
   ·exact .trans (.single (.inl ⟨af,i,by rw [g?_old bY];exact hJ,by rw [g?_old aK];exact al.g⟩)) edge
   ·obtain rfl:k=r:=by omega
    exact edge
  ·exact absurd hc (new k iI hk)
theorem iS.joined(h:iS own ro bk sh mu bW n B t)(ae:∀i,0<i->i<n->wA t i){b:Nat}(hb:¬sh b):q7 t 0 b:=by
 intro i a aA af;obtain ⟨op,aQ,aa⟩:=touch_of aA;rcases Nat.eq_zero_or_pos op.g with h0|aK
 ·have:=knows_own aQ
  rwa [h0] at this
 ·obtain ⟨b9,dW,hc⟩:=h.plain i op a aQ aa;obtain rfl:b=b9:=by rw [af] at dW;exact Option.some.inj dW
  have hm:a.loc.isMemory=true:=by cases asq:a.loc<;>rw [asq] at af<;>simp [blk] at af<;>rfl
  refine ae op.g aK (h.gs i op aQ) i (by simp [Trace.g?,aQ]) ⟨a,by rw [act?_of aQ];exact aa,hm,.inl ?_⟩;rw [hc.resolve_left hb];simp
end
end
section
open Go.ConcN (sumTo sumTo_upd sumTo_congr upd upd_same upd_ne le_sumTo)
inductive a7 where
 | out|hP (aw:Bool)|hT|qz|vO|own|jV|rel
 deriving DecidableEq
structure cK where
 md:Nat->a7
 di:Nat->Nat
 L:Nat
 K:Nat
 S:Nat
 W:Nat
 M:Nat
namespace a7
def iE:a7->Nat|.own=>1|_=>0
def iW:a7->Nat|.rel=>1|_=>0
def hG:a7->Nat|.qz=>1|_=>0
def iY:a7->Nat|.hP true=>1|_=>0
def il:a7->Nat|.hT=>1|_=>0
def hH:a7->Nat|.vO=>1|_=>0
def jI:a7->Nat|.jV=>1|_=>0
def wt:a7->Nat
 | .out=>0|.hP false=>13|.hP true=>12|.hT=>11|.qz=>13|.vO=>13|.own=>5|.jV=>4|.rel=>3
end a7
def cnt(n:Nat)(f:a7->Nat)(md:Nat->a7):Nat:=sumTo n (fun i=>f (md i))
theorem ts{n i:Nat}(hi:i<n)(f:a7->Nat)(md:Nat->a7)(x:a7):cnt n f (upd md i x)+f (md i)=cnt n f md+f x:=by
 have:=sumTo_upd md x f hi;simpa [cnt] using this
theorem amZ{n:Nat}{f:a7->Nat}{md:Nat->a7}(h:0<cnt n f md):∃i,i<n/\0<f (md i):=by
 induction n with
 | zero=>simp [cnt,sumTo] at h
 | succ n aN=>
  by_cases ao:0<f (md n)
  ·exact ⟨n,by omega,ao⟩
  ·have:0<cnt n f md:=by simp only [cnt,sumTo] at h ⊢;omega
   obtain ⟨i,hi,aP⟩:=aN this;exact ⟨i,by omega,aP⟩
theorem vf{n i:Nat}(hi:i<n)(f:a7->Nat)(md:Nat->a7):f (md i)<=cnt n f md:=le_sumTo (f:=fun i=>f (md i)) hi
theorem VA{n i:Nat}(hi:i<n)(b:Nat->Nat)(x:Nat):sumTo n (upd b i x)+b i=sumTo n b+x:=by
 have:=sumTo_upd b x id hi;simpa using this
namespace cK
def mu(x:cK):Nat:=x.L+2*x.K+4*x.S+8*x.W
def cf(n:Nat)(x:cK):Nat:=cnt n a7.wt x.md+14*sumTo n x.di+2*x.M
structure cu(n:Nat)(x:cK):Prop where
 l:x.L=cnt n a7.iE x.md
 fg:x.L<=1
 k1:x.K<=1
 s1:x.S<=1
 n0:x.S=0->x.K=cnt n a7.iW x.md+x.M+cnt n a7.hG x.md+cnt n a7.iY x.md/\cnt n a7.il x.md=x.W+cnt n a7.iW x.md+x.M/\cnt n a7.hH x.md=0/\
  (0<x.W->x.L=1\/x.K=1\/0<cnt n a7.jI x.md)
 bm:x.S=1->x.K=0/\cnt n a7.iY x.md=0/\x.L+cnt n a7.iW x.md+x.M+cnt n a7.hG x.md+cnt n a7.hH x.md=1/\x.W=cnt n a7.il x.md+cnt n a7.hG x.md+cnt n a7.hH x.md
section
variable{n i:Nat}{x:cK}
def set(x:cK)(i:Nat)(m:a7):cK:= {x with md:=upd x.md i m}
theorem n8{n i:Nat}(hi:i<n)(md:Nat->a7)(m:a7):
  (cnt n a7.iE (upd md i m)+(md i).iE=cnt n a7.iE md+m.iE)/\(cnt n a7.iW (upd md i m)+(md i).iW=cnt n a7.iW md+m.iW)/\
  (cnt n a7.hG (upd md i m)+(md i).hG=cnt n a7.hG md+m.hG)/\(cnt n a7.iY (upd md i m)+(md i).iY=cnt n a7.iY md+m.iY)/\
  (cnt n a7.il (upd md i m)+(md i).il=cnt n a7.il md+m.il)/\(cnt n a7.hH (upd md i m)+(md i).hH=cnt n a7.hH md+m.hH)/\
  (cnt n a7.jI (upd md i m)+(md i).jI=cnt n a7.jI md+m.jI)/\(cnt n a7.wt (upd md i m)+(md i).wt=cnt n a7.wt md+m.wt):=
 ⟨ts hi _ _ _,ts hi _ _ _,ts hi _ _ _,ts hi _ _ _,ts hi _ _ _,ts hi _ _ _,ts hi _ _ _,ts hi _ _ _⟩
theorem rv{n i:Nat}(hi:i<n)(md:Nat->a7):
  (md i).iE<=cnt n a7.iE md/\(md i).iW<=cnt n a7.iW md/\(md i).hG<=cnt n a7.hG md/\(md i).iY<=cnt n a7.iY md/\(md i).il<=cnt n a7.il md/\(md i).hH<=cnt n a7.hH md/\(md i).jI<=cnt n a7.jI md:=
 ⟨vf hi _ _,vf hi _ _,vf hi _ _,vf hi _ _,vf hi _ _,vf hi _ _,vf hi _ _⟩
def go(x:cK)(i:Nat)(m:a7)(L K S W M:Nat):cK:= {md:=upd x.md i m,di:=x.di,L:=L,K:=K,S:=S,W:=W,M:=M}
def nF(x:cK)(i:Nat)(m:a7)(L K S W M:Nat):cK:= {md:=upd x.md i m,di:=upd x.di i (x.di i- 1),L:=L,K:=K,S:=S,W:=W,M:=M}
theorem asr(h:x.cu n)(hi:i<n)(hm:x.md i=.out)(hb:0<x.di i)(h0:x.mu=0):(x.nF i .own 1 0 0 0 x.M).cu n/\(x.nF i .own 1 0 0 0 x.M).cf n<x.cf n:=by
 obtain ⟨a1,a2,a3,a4,a5,eK,eV,fJ⟩:=n8 hi x.md .own;have ass:=VA hi x.di (x.di i- 1);obtain ⟨l,fg,k1,s1,n0,bm⟩:=h;simp only [mu] at h0;simp only [hm,a7.iE,a7.iW,a7.hG,a7.iY,a7.il,a7.hH,a7.jI,a7.wt] at a1 a2 a3 a4 a5 eK eV fJ;have cZ:x.S=0:=by omega
 obtain ⟨cl,bV,dz,hD⟩:=n0 cZ;refine ⟨⟨?_,?_,?_,?_,fun _=>⟨?_,?_,?_,?_⟩,fun e=> ?_⟩,?_⟩<;>(try simp only [nF] at e)<;>(try simp only [nF,cf])<;>(first|omega|exact fun _=>.inl trivial|exact fun _=>.inr (.inl trivial))
theorem start(h:x.cu n)(hi:i<n)(hm:x.md i=.out)(hb:0<x.di i):(x.nF i (.hP false) x.L x.K x.S x.W x.M).cu n/\(x.nF i (.hP false) x.L x.K x.S x.W x.M).cf n<x.cf n:=by
 obtain ⟨a1,a2,a3,a4,a5,eK,eV,fJ⟩:=n8 hi x.md (.hP false);have ass:=VA hi x.di (x.di i- 1);obtain ⟨l,fg,k1,s1,n0,bm⟩:=h;simp only [hm,a7.iE,a7.iW,a7.hG,a7.iY,a7.il,a7.hH,a7.jI,a7.wt] at a1 a2 a3 a4 a5 eK eV fJ;refine ⟨⟨?_,?_,?_,?_,fun e=>⟨?_,?_,?_,?_⟩,fun e=>⟨?_,?_,?_,?_⟩⟩,?_⟩<;>(try simp only [nF] at e)<;>(try simp only [nF,cf])<;>(first|omega|exact fun _=>.inl trivial|exact fun _=>.inr (.inl trivial))
theorem acq(h:x.cu n)(hi:i<n){aw:Bool}(hm:x.md i=.hP aw)(o4:x.L=0)(cZ:x.S=0):
  (x.go i .own 1 (if aw then 0 else x.K) 0 x.W x.M).cu n/\(x.go i .own 1 (if aw then 0 else x.K) 0 x.W x.M).cf n<x.cf n:=by
 obtain ⟨a1,a2,a3,a4,a5,eK,eV,fJ⟩:=n8 hi x.md .own;obtain ⟨l,fg,k1,s1,n0,bm⟩:=h;have hle:=rv hi x.md;obtain ⟨cl,bV,dz,hD⟩:=n0 cZ;cases aw<;>simp only [hm,a7.iE,a7.iW,a7.hG,a7.iY,a7.il,a7.hH,a7.jI,a7.wt] at a1 a2 a3 a4 a5 eK eV fJ hle<;>refine ⟨⟨?_,?_,?_,?_,fun e=>⟨?_,?_,?_,?_⟩,fun e=>⟨?_,?_,?_,?_⟩⟩,?_⟩<;>(try simp only [go,cf,if_true,if_false,Bool.false_eq_true,reduceIte] at e)<;>(try simp only [go,cf,if_true,if_false,Bool.false_eq_true,reduceIte])<;>(first|omega|exact fun _=>.inl trivial|exact fun _=>.inr (.inl trivial))
theorem hT(h:x.cu n)(hi:i<n){aw st:Bool}(hm:x.md i=.hP aw)(ZJ:x.L=1\/x.S=1)(cj:st=true->aw=true/\x.L=1):
  (x.go i .hT x.L (if aw then 0 else x.K) (if st then 1 else x.S) (x.W+1) x.M).cu n/\(x.go i .hT x.L (if aw then 0 else x.K) (if st then 1 else x.S) (x.W+1) x.M).cf n<x.cf n:=by
 obtain ⟨a1,a2,a3,a4,a5,eK,eV,fJ⟩:=n8 hi x.md .hT;obtain ⟨l,fg,k1,s1,n0,bm⟩:=h;have hle:=rv hi x.md;have cZ:x.S=0\/x.S=1:=by omega
 have hg:¬(aw=false/\st=true):=fun ⟨h1,h2⟩=>by have:=(cj h2).1;rw [h1] at this;cases this
 cases aw<;>cases st<;>(try exact absurd ⟨rfl,rfl⟩ hg)<;>simp only [hm,a7.iE,a7.iW,a7.hG,a7.iY,a7.il,a7.hH,a7.jI,a7.wt] at a1 a2 a3 a4 a5 eK eV fJ hle<;>rcases cZ with cZ|cZ<;>(first|have ao:=n0 cZ|have ao:=bm cZ)<;>refine ⟨⟨?_,?_,?_,?_,fun e=>⟨?_,?_,?_,?_⟩,fun e=>⟨?_,?_,?_,?_⟩⟩,?_⟩<;>(try simp only [go,cf,if_true,if_false,Bool.false_eq_true,true_imp_iff,false_imp_iff,reduceCtorEq,and_true,true_and,reduceIte] at e cj ⊢)<;>(try simp only [go,cf,if_true,if_false,Bool.false_eq_true,true_imp_iff,false_imp_iff,reduceCtorEq,and_true,true_and,reduceIte] at cj ⊢)<;>(first|omega|exact fun _=>.inl trivial|exact fun _=>.inr (.inl trivial))
theorem ast(h:x.cu n)(hi:i<n)(hm:x.md i=.hP false)(o4:x.L=1)(cZ:x.S=0)(iC:x.K=0):
  (x.go i (.hP true) 1 1 0 x.W x.M).cu n/\(x.go i (.hP true) 1 1 0 x.W x.M).cf n<x.cf n:=by
 obtain ⟨a1,a2,a3,a4,a5,eK,eV,fJ⟩:=n8 hi x.md (.hP true);obtain ⟨l,fg,k1,s1,n0,bm⟩:=h;obtain ⟨cl,bV,dz,hD⟩:=n0 cZ;simp only [hm,a7.iE,a7.iW,a7.hG,a7.iY,a7.il,a7.hH,a7.jI,a7.wt] at a1 a2 a3 a4 a5 eK eV fJ;refine ⟨⟨?_,?_,?_,?_,fun e=>⟨?_,?_,?_,?_⟩,fun e=>⟨?_,?_,?_,?_⟩⟩,?_⟩<;>(try simp only [go] at e)<;>(try simp only [go,cf])<;>(first|omega|exact fun _=>.inl trivial|exact fun _=>.inr (.inl trivial))
theorem ZK(h:x.cu n)(hi:i<n)(hm:x.md i=.hT)(dJ:0<x.M):(x.go i .qz x.L x.K x.S x.W (x.M- 1)).cu n/\(x.go i .qz x.L x.K x.S x.W (x.M- 1)).cf n<=x.cf n:=by
 obtain ⟨a1,a2,a3,a4,a5,eK,eV,fJ⟩:=n8 hi x.md .qz;obtain ⟨l,fg,k1,s1,n0,bm⟩:=h;have hle:=rv hi x.md;simp only [hm,a7.iE,a7.iW,a7.hG,a7.iY,a7.il,a7.hH,a7.jI,a7.wt] at a1 a2 a3 a4 a5 eK eV fJ hle;refine ⟨⟨?_,?_,?_,?_,fun e=>⟨?_,?_,?_,?_⟩,fun e=>⟨?_,?_,?_,?_⟩⟩,?_⟩<;>(try simp only [go] at e)<;>(try simp only [go,cf])<;>(first|omega|exact fun _=>.inl trivial|exact fun _=>.inr (.inl trivial))
theorem apE(h:x.cu n)(hi:i<n)(hm:x.md i=.qz)(cZ:x.S=0):(x.go i (.hP true) x.L x.K x.S x.W x.M).cu n/\(x.go i (.hP true) x.L x.K x.S x.W x.M).cf n<x.cf n/\x.K=1:=by
 obtain ⟨a1,a2,a3,a4,a5,eK,eV,fJ⟩:=n8 hi x.md (.hP true);obtain ⟨l,fg,k1,s1,n0,bm⟩:=h;have hle:=rv hi x.md;obtain ⟨cl,bV,dz,hD⟩:=n0 cZ;simp only [hm,a7.iE,a7.iW,a7.hG,a7.iY,a7.il,a7.hH,a7.jI,a7.wt] at a1 a2 a3 a4 a5 eK eV fJ hle;refine ⟨⟨?_,?_,?_,?_,fun e=>⟨?_,?_,?_,?_⟩,fun e=>⟨?_,?_,?_,?_⟩⟩,?_,?_⟩<;>(try simp only [go] at e)<;>(try simp only [go,cf])<;>(first|omega|exact fun _=>.inl trivial|exact fun _=>.inr (.inl trivial))
theorem apF(h:x.cu n)(hi:i<n)(hm:x.md i=.qz)(cZ:x.S=1):(x.go i .vO x.L x.K x.S x.W x.M).cu n/\(x.go i .vO x.L x.K x.S x.W x.M).cf n<=x.cf n/\x.L=0/\x.K=0/\0<x.W:=by
 obtain ⟨a1,a2,a3,a4,a5,eK,eV,fJ⟩:=n8 hi x.md .vO;obtain ⟨l,fg,k1,s1,n0,bm⟩:=h;have hle:=rv hi x.md;obtain ⟨cl,bV,dz,hD⟩:=bm cZ;simp only [hm,a7.iE,a7.iW,a7.hG,a7.iY,a7.il,a7.hH,a7.jI,a7.wt] at a1 a2 a3 a4 a5 eK eV fJ hle;refine ⟨⟨?_,?_,?_,?_,fun e=>⟨?_,?_,?_,?_⟩,fun e=>⟨?_,?_,?_,?_⟩⟩,?_,?_,?_,?_⟩<;>(try simp only [go] at e)<;>(try simp only [go,cf])<;>(first|omega|exact fun _=>.inl trivial|exact fun _=>.inr (.inl trivial))
theorem ajX(h:x.cu n)(hi:i<n)(hm:x.md i=.own)(cZ:x.S=1):(x.go i .rel 0 x.K x.S x.W x.M).cu n/\(x.go i .rel 0 x.K x.S x.W x.M).cf n<x.cf n/\x.L=1:=by
 obtain ⟨a1,a2,a3,a4,a5,eK,eV,fJ⟩:=n8 hi x.md .rel;obtain ⟨l,fg,k1,s1,n0,bm⟩:=h;have hle:=rv hi x.md;obtain ⟨cl,bV,dz,hD⟩:=bm cZ;simp only [hm,a7.iE,a7.iW,a7.hG,a7.iY,a7.il,a7.hH,a7.jI,a7.wt] at a1 a2 a3 a4 a5 eK eV fJ hle;refine ⟨⟨?_,?_,?_,?_,fun e=>⟨?_,?_,?_,?_⟩,fun e=>⟨?_,?_,?_,?_⟩⟩,?_,?_⟩<;>(try simp only [go] at e)<;>(try simp only [go,cf])<;>(first|omega|exact fun _=>.inl trivial|exact fun _=>.inr (.inl trivial))
theorem ajY(h:x.cu n)(hi:i<n)(hm:x.md i=.own)(cZ:x.S=0)(hw:x.W=0\/x.K=1):(x.go i .out 0 x.K x.S x.W x.M).cu n/\(x.go i .out 0 x.K x.S x.W x.M).cf n<x.cf n/\x.L=1:=by
 obtain ⟨a1,a2,a3,a4,a5,eK,eV,fJ⟩:=n8 hi x.md .out;obtain ⟨l,fg,k1,s1,n0,bm⟩:=h;have hle:=rv hi x.md;obtain ⟨cl,bV,dz,hD⟩:=n0 cZ;simp only [hm,a7.iE,a7.iW,a7.hG,a7.iY,a7.il,a7.hH,a7.jI,a7.wt] at a1 a2 a3 a4 a5 eK eV fJ hle;refine ⟨⟨?_,?_,?_,?_,fun e=>⟨?_,?_,?_,?_⟩,fun e=>⟨?_,?_,?_,?_⟩⟩,?_,?_⟩<;>(try simp only [go] at e)<;>(try simp only [go,cf])<;>(first|omega|exact fun _=>.inl trivial|exact fun _=>.inr (.inl trivial))
theorem ajZ(h:x.cu n)(hi:i<n)(hm:x.md i=.own)(cZ:x.S=0):(x.go i .jV 0 x.K x.S x.W x.M).cu n/\(x.go i .jV 0 x.K x.S x.W x.M).cf n<x.cf n/\x.L=1:=by
 obtain ⟨a1,a2,a3,a4,a5,eK,eV,fJ⟩:=n8 hi x.md .jV;obtain ⟨l,fg,k1,s1,n0,bm⟩:=h;have hle:=rv hi x.md;obtain ⟨cl,bV,dz,hD⟩:=n0 cZ;simp only [hm,a7.iE,a7.iW,a7.hG,a7.iY,a7.il,a7.hH,a7.jI,a7.wt] at a1 a2 a3 a4 a5 eK eV fJ hle;refine ⟨⟨?_,?_,?_,?_,fun e=>⟨?_,?_,?_,?_⟩,fun e=>⟨?_,?_,?_,?_⟩⟩,?_,?_⟩<;>(try simp only [go] at e)<;>(try simp only [go,cf])<;>(first|omega|exact fun _=>.inl trivial|exact fun _=>.inr (.inl trivial))
theorem quit(h:x.cu n)(hi:i<n)(hm:x.md i=.jV)(hw:x.W=0\/x.L=1\/x.K=1\/x.S=1):(x.go i .out x.L x.K x.S x.W x.M).cu n/\(x.go i .out x.L x.K x.S x.W x.M).cf n<x.cf n:=by
 obtain ⟨a1,a2,a3,a4,a5,eK,eV,fJ⟩:=n8 hi x.md .out;obtain ⟨l,fg,k1,s1,n0,bm⟩:=h;simp only [hm,a7.iE,a7.iW,a7.hG,a7.iY,a7.il,a7.hH,a7.jI,a7.wt] at a1 a2 a3 a4 a5 eK eV fJ;refine ⟨⟨?_,?_,?_,?_,fun e=>⟨?_,?_,?_,?_⟩,fun e=>⟨?_,?_,?_,?_⟩⟩,?_⟩<;>(try simp only [go] at e)<;>(try simp only [go,cf])<;>(first|omega|exact fun _=>.inl trivial|exact fun _=>.inr (.inl trivial))
theorem wake(h:x.cu n)(hi:i<n)(hm:x.md i=.jV)(o4:x.L=0)(iC:x.K=0)(cZ:x.S=0)(hW:0<x.W):(x.go i .rel 0 1 0 (x.W- 1) x.M).cu n/\(x.go i .rel 0 1 0 (x.W- 1) x.M).cf n<x.cf n:=by
 obtain ⟨a1,a2,a3,a4,a5,eK,eV,fJ⟩:=n8 hi x.md .rel;obtain ⟨l,fg,k1,s1,n0,bm⟩:=h;obtain ⟨cl,bV,dz,hD⟩:=n0 cZ;simp only [hm,a7.iE,a7.iW,a7.hG,a7.iY,a7.il,a7.hH,a7.jI,a7.wt] at a1 a2 a3 a4 a5 eK eV fJ;refine ⟨⟨?_,?_,?_,?_,fun e=>⟨?_,?_,?_,?_⟩,fun e=>⟨?_,?_,?_,?_⟩⟩,?_⟩<;>(try simp only [go] at e)<;>(try simp only [go,cf])<;>(first|omega|exact fun _=>.inl trivial|exact fun _=>.inr (.inl trivial))
theorem release(h:x.cu n)(hi:i<n)(hm:x.md i=.rel):(x.go i .out x.L x.K x.S x.W (x.M+1)).cu n/\(x.go i .out x.L x.K x.S x.W (x.M+1)).cf n<x.cf n:=by
 obtain ⟨a1,a2,a3,a4,a5,eK,eV,fJ⟩:=n8 hi x.md .out;obtain ⟨l,fg,k1,s1,n0,bm⟩:=h;simp only [hm,a7.iE,a7.iW,a7.hG,a7.iY,a7.il,a7.hH,a7.jI,a7.wt] at a1 a2 a3 a4 a5 eK eV fJ;refine ⟨⟨?_,?_,?_,?_,fun e=>⟨?_,?_,?_,?_⟩,fun e=>⟨?_,?_,?_,?_⟩⟩,?_⟩<;>(try simp only [go] at e)<;>(try simp only [go,cf])<;>(first|omega|exact fun _=>.inl trivial|exact fun _=>.inr (.inl trivial))
theorem awake(h:x.cu n)(hi:i<n)(hm:x.md i=.hP true):x.K=1/\x.S=0:=by
 obtain ⟨l,fg,k1,s1,n0,bm⟩:=h;have hle:=rv hi x.md;simp only [hm,a7.iY] at hle;rcases (show x.S=0\/x.S=1 by omega) with e|e
 ·have:=n0 e;omega
 ·have:=bm e;omega
theorem owner(h:x.cu n){j:Nat}(hi:i<n)(ae:j<n)(hm:x.md i=.own)(hk:x.md j=.own):i=j:=by
 refine Classical.byContradiction fun b7=> ?_;have h1:=ts hi a7.iE x.md .out;have h2:=vf ae a7.iE (upd x.md i .out);rw [upd_ne _ _ (Ne.symm b7)] at h2;simp only [hm,hk,a7.iE] at h1 h2;have:=h.l;have:=h.fg;omega
theorem live(h:x.cu n)(hi:i<n)(hm:x.md i=.hT)(dJ:x.M=0):∃j,j<n/\x.md j≠.out/\x.md j≠.hT:=by
 have hle:=rv hi x.md;simp only [hm,a7.il] at hle;obtain ⟨l,fg,k1,s1,n0,bm⟩:=h;have key:0<cnt n a7.iE x.md\/0<cnt n a7.iW x.md\/0<cnt n a7.hG x.md\/0<cnt n a7.iY x.md\/0<cnt n a7.jI x.md\/0<cnt n a7.hH x.md:=by
  rcases (show x.S=0\/x.S=1 by omega) with e|e
  ·have:=n0 e;omega
  ·have:=bm e;omega
 rcases key with k|k|k|k|k|k<;>obtain ⟨j,ae,aP⟩:=amZ k<;>refine ⟨j,ae,?_,?_⟩<;>intro e<;>rw [e] at aP<;>simp [a7.iE,a7.iW,a7.hG,a7.iY,a7.jI,a7.hH] at aP
end
end cK
end
section
open Go.ConcN (sumTo sumTo_upd sumTo_congr upd upd_same upd_ne)
section
variable{P:Program}{L:jh P}
theorem jh.qQ.stay{j:Nat}{x:oN L.α}{g:Goroutine}{γ γ':L.kA}{h:ab}{t bt:Trace}(T:L.qQ j x g γ h t)(aQ:L.R j γ γ'/\(L.gone γ' j↔L.gone γ j))(hd:Deaf bt j=Deaf t j)(hw:L.waits γ j->L.waits γ' j):L.qQ j x g γ' h bt:=by
 rcases T with ⟨a1,s,hB,g0,a2,a3,a4,a5⟩|⟨a1,a2,q,a3,a4⟩
 ·exact .inl ⟨fun e=>a1 (aQ.2.1 e),s,hB,g0,a2,L.trans a3 aQ.1,a4,a5.imp id fun ⟨cl,bV,dz⟩=>⟨cl,bV,hw dz⟩⟩
 ·exact .inr ⟨aQ.2.2 a1,a2,q,a3,by rw [hd];exact a4⟩
theorem jh.qQ.other{j:Nat}{x:oN L.α}{g uP g':Goroutine}{w':World}{γ γ':L.kA}{h:ab}{t bt:Trace}(T:L.qQ j x g γ h t)(aQ:L.R j γ γ'/\(L.gone γ' j↔L.gone γ j))(hd:Deaf bt j=Deaf t j)
  (hw:L.waits γ j->¬L.waits γ' j->mayWake P uP=true) (al:g'.status=.running\/g'.status=.finished):L.qQ j x (woken P uP g' w' g) γ' h bt:=by
 have eu:(g'.status != .blocked&&g'.status != .waiting)=true:=by rcases al with e|e<;>rw [e]<;>rfl
 rcases T with ⟨a1,s,hB,g0,a2,a3,a4,a5⟩|⟨a1,a2,q,a3,a4⟩
 ·refine .inl ⟨fun e=>a1 (aQ.2.1 e),s,hB,g0,a2,L.trans a3 aQ.1,a4,?_⟩;have qo:=a4.running;rcases a5 with rfl|⟨cl,rfl,dz⟩
  ·exact .inl (woken_run qo)
  ·by_cases hm:mayWake P uP=true
   ·left;unfold woken;rw [if_pos (by rw [hm,Bool.true_and];exact eu)];exact Go.ConcR.again_blocked qo cl _
   ·have e:woken P uP g' w' {g0 with status:=.blocked}= {g0 with status:=.blocked}:=by
     unfold woken;rw [if_neg];intro aa;simp only [Bool.and_eq_true] at aa;exact hm aa.1.1
    exact .inr ⟨cl,e,Classical.byContradiction fun ao=>hm (hw dz ao)⟩
 ·exact .inr ⟨aQ.2.2 a1,a2,q,a3,by rw [woken_quitsD a4,hd];exact a4⟩
theorem jh.qQ.status{j:Nat}{x:oN L.α}{g:Goroutine}{γ:L.kA}{h:ab}{t:Trace}(T:L.qQ j x g γ h t):g.status=.running\/g.status=.blocked\/g.status=.finished:=by
 rcases T with ⟨_,s,hB,g0,_,_,a4,rfl|⟨_,rfl,_⟩⟩|⟨_,_,q,_,a4⟩
 ·exact .inl a4.running
 ·exact .inr (.inl rfl)
 ·exact a4.status.imp id .inr
theorem aj0{i:Nat}{g:Goroutine}{es:Array Event}{op:MemOp}(h:op∈opsOf i g es):op.g=i:=by
 rw [show opsOf i g es=MemOp.ofEvents i g.frame.fn g.frame.place es from rfl,ofEvents_eq] at h;obtain ⟨e,_,rfl⟩:=Array.mem_map.1 h;rfl
theorem EV{t:Trace}{i j:Nat}(m2:j≠i)(g:Goroutine)(es:Array Event):Deaf (t++opsOf i g es) j=Deaf t j:=
 Deaf_other t (g':=i) (fun e=>m2 e.symm) _ (fun _ aF=>aj0 aF)
theorem jh.Inv.next{gs:Array Goroutine}{w':World}{kS:Option (Nat×Nat)}{γ γ':L.kA}{hs:Nat->ab}{ms:List (oN L.α)}{mZ xx:lv L.α}{ms':List (oN L.α)}{t:Trace}{i:Nat}{g g':Goroutine}{es:Array Event}{h':ab}{x':oN L.α}
  (eJ:gs.size=ms.length+1) (sD:∀i g x,gs[i]? =some g->(Sum.inl mZ::ms)[i]? =some x->L.qQ i x g γ (hs i) t) (hi:gs[i]? =some g)
  (xS:L.dh γ' gs.size (cC hs i h') w' (t++opsOf i g es)) (aQ:L.ru i γ γ') (hk:L.rO g γ γ') (al:g'.status=.running\/g'.status=.finished)
  (hm:Sum.inl xx::ms'=(Sum.inl mZ::ms).set i x') (yy:L.qQ i x' g' γ' h' (t++opsOf i g es)):
  L.Inv (xx,ms',sumTo ((gs.map (woken P g g' w')).setIfInBounds i g').size (oO ((gs.map (woken P g g' w')).setIfInBounds i g'))) (crowd ((gs.map (woken P g g' w')).setIfInBounds i g') w' kS) (t++opsOf i g es):=by
 have hlen:ms'.length=ms.length:=by have:=congrArg List.length hm;simpa using this
 have bY:i<gs.size:=(Array.getElem?_eq_some_iff.1 hi).1;refine ⟨_,w',kS,γ',cC hs i h',ms',xx,rfl,by simp [eJ,hlen],by simpa using xS,fun j l4 qR ae kT=> ?_,rfl⟩;rw [hm] at kT;by_cases m2:j=i
 ·subst m2;rw [Array.getElem?_setIfInBounds_self_of_lt (by simpa using bY)] at ae;rw [List.getElem?_set_self (by simp;omega)] at kT;cases ae;cases kT;rw [kD];exact yy
 ·rw [Array.getElem?_setIfInBounds_ne (Ne.symm m2),Array.getElem?_map] at ae;rw [List.getElem?_set_ne (Ne.symm m2)] at kT;obtain ⟨y,ax,rfl⟩:=Option.map_eq_some_iff.1 ae;rw [gr _ _ m2];exact (sD j y qR ax kT).other (aQ j m2) (EV m2 _ _) (hk j) al
theorem ag4{ms:List (oN L.α)}{mZ:lv L.α}:∀{i:Nat} {x x':oN L.α},(Sum.inl mZ::ms)[i]? =some x->s4 x' x->(∀q,i=0->x'≠.inr q)->∃xx ms',Sum.inl xx::ms'=(Sum.inl mZ::ms).set i x'/\∀c b2,L.lt (xx,ms',b2) (mZ,ms,c)
 | 0,x,x',h,af,ao=>by
  simp at h;subst h;cases af with
  | nP hs=>exact ⟨_,ms,by simp,fun c b2=>Prod.Lex.left _ _ hs⟩
  | DX=>exact absurd rfl (ao _ rfl)
 | i+1,x,x',h,af,_=>⟨mZ,ms.set i x',by simp,fun c b2=>Prod.Lex.right _ (Prod.Lex.left _ _ (qx.set (by simpa using h) af))⟩
theorem jh.aj1{o3:L.o3}{m:Machine}{t:Trace}(I:L.Inv o3 m t):
  (∃o w ops,stepT P m=(.ended o w,ops)/\Good P L.Post m o w (t++ops))\/(∃dR ops vP,stepT P m=(.next dR,ops)/\L.lt vP o3/\L.Inv vP dR (t++ops)):=by
 obtain ⟨gs,w,sl,γ,hs,ms,mZ,rfl,eJ,xS,sD,rfl⟩:=I;have aa:∀i g,gs[i]? =some g->∃x,(Sum.inl mZ::ms)[i]? =some x:=fun i g hi=>by
  have bY:=(Array.getElem?_eq_some_iff.1 hi).1;exact ⟨_,List.getElem?_eq_getElem (by simp;omega)⟩
 have auT:∀g∈gs,awake g:=by
  intro g aG aBD;obtain ⟨i,hi⟩:=Array.mem_iff_getElem?.1 aG;obtain ⟨x,gl⟩:=aa i g hi;rcases (sD i g x hi gl).status with e|e|e<;>rw [e]<;>simp
 obtain ⟨i0,fg,l3,fP⟩:=L.live xS;have apG:∃(i:Nat) (g:Goroutine),gs[i]? =some g/\g.status=.running:=by
  have e:=Array.getElem?_eq_getElem fg;obtain ⟨x,gl⟩:=aa i0 _ e;rcases sD i0 _ x e gl with ⟨_,s,hB,g0,_,_,a4,a5|⟨_,_,dz⟩⟩|⟨a1,_⟩
  ·exact ⟨i0,_,e,by rw [a5];exact a4.running⟩
  ·exact absurd dz fP
  ·exact absurd a1 l3
 obtain ⟨i,g,d,kS,hi,aG,cj⟩:=crowd_pick (P:=P) (w:=w) (sl:=sl) auT apG;have tF:=L.at_ d xS;have bY:i<gs.size:=(Array.getElem?_eq_some_iff.1 hi).1;obtain ⟨x,H5⟩:=aa i g hi;have vl:L.ru i γ γ:=fun j _=>⟨L.refl j γ,Iff.rfl⟩;have PT:L.rO g γ γ:=fun j a b=>absurd a b;have zQ:∀{γ':L.kA} {g':Goroutine} {w':World} {es:Array Event} {h':ab} {x':oN L.α},stepG P (i==0) g (w.at d)=.go g' w' es->L.dh γ' gs.size (cC hs i h') w' (t++opsOf i g es)->L.ru i γ γ'->L.rO g γ γ'->
   (g'.status=.running\/g'.status=.finished)->s4 x' x->(∀q,i=0->x'≠.inr q)->L.qQ i x' g' γ' h' (t++opsOf i g es)->
   ∃dR ops vP,stepT P (crowd gs w sl)=(.next dR,ops)/\L.lt vP (mZ,ms,sumTo gs.size (oO gs))/\L.Inv vP dR (t++ops):=by
  intro γ' g' w' es h' x' hgo cQ aQ hk al auU ao yy;obtain ⟨xx,ms',hm,asu⟩:=ag4 (L:=L) H5 auU ao;exact ⟨_,_,_,cj.trans (runT_crowd_go (sl:=kS) hi hgo),asu _ _,jh.Inv.next eJ sD hi cQ aQ hk al hm yy⟩
 have block:L.waits γ i->∀g0,g=g0->g0.offers=none->¬L.gone γ i->(∃s hB,x=.inl hB/\L.R i s γ/\L.Ag i hB s (hs i) g0)->stepG P (i==0) g (w.at d)=.go {g with status:=.blocked} (w.at d) #[]->
   ∃dR ops vP,stepT P (crowd gs w sl)=(.next dR,ops)/\L.lt vP (mZ,ms,sumTo gs.size (oO gs))/\L.Inv vP dR (t++ops):=by
  intro auV g0 e0 xy cU ⟨s,hB,ex,al,qo⟩ hgo;subst e0;have auW:woken P g {g with status:=.blocked} (w.at d)=id:=by
   funext o;simp [woken]
  have tZ:=runT_crowd_go (sl:=kS) hi hgo;rw [auW,Array.map_id] at tZ;have e0:MemOp.ofEvents i g.frame.fn g.frame.place #[]=#[]:=by rw [ofEvents_eq];simp
  rw [e0] at tZ;refine ⟨_,_,(mZ,ms,sumTo gs.size (oO (gs.setIfInBounds i {g with status:=.blocked}))),cj.trans tZ,Prod.Lex.right _ (Prod.Lex.right _ ?_),?_⟩
  ·have e:oO (gs.setIfInBounds i {g with status:=.blocked})=fun j=>upd (oO gs) i 0 j:=by
    funext j;by_cases ae:j=i
    ·subst ae;simp [oO,Array.getElem?_setIfInBounds_self_of_lt bY,upd]
    ·simp [oO,Array.getElem?_setIfInBounds_ne (Ne.symm ae),upd,ae]
   have:=sumTo_upd (oO gs) 0 id bY;have hc:oO gs i=1:=by simp [oO,hi,aG]
   rw [e];simp only [id,hc] at this;show sumTo gs.size (fun j=>upd (oO gs) i 0 j)<sumTo gs.size (fun a=>oO gs a);omega
  ·refine ⟨_,w.at d,kS,γ,hs,ms,mZ,rfl,by simp [eJ],by simpa using tF,fun j l4 qR ae kT=> ?_,by simp⟩;simp only [Array.append_empty];by_cases m2:j=i
   ·subst m2;rw [Array.getElem?_setIfInBounds_self_of_lt bY] at ae;cases ae;obtain rfl:x=qR:=by rw [H5] at kT;exact Option.some.inj kT
    exact .inl ⟨cU,s,hB,g,ex,al,qo,.inr ⟨xy,rfl,auV⟩⟩
   ·rw [Array.getElem?_setIfInBounds_ne (Ne.symm m2)] at ae;exact sD j l4 qR ae kT
 rcases sD i g x hi H5 with ⟨a1,s,hB,g0,rfl,a3,a4,a5⟩|⟨a1,a2,q,rfl,a4⟩
 ·have ab7:g=g0:=by
   rcases a5 with e|⟨_,rfl,_⟩
   ·exact e
   ·cases aG
  subst ab7;have dF:=L.eb tF bY a1;cases hB with
  | leaf=>
   cases i with
   | succ i=>exact a4.elim
   | zero=>
    obtain ⟨_,aE⟩:=a4;obtain ⟨c1,v,es,c2,c3,c4,c5⟩:=aE γ _ hs (w.at d) t a3 tF rfl;have tZ:=runT_many_ended (P:=P) (sl:=kS) (i:=0) hi (show stepG P (0==0) g (w.at d)=_ from c2);have CU:∀j l4,0<j->gs[j]? =some l4->∃q,QuitsD P q (Deaf t j) l4:=fun j l4 AD ae=>by
     obtain ⟨qR,kT⟩:=aa j l4 ae;rcases sD j l4 qR ae kT with ⟨cl,_⟩|⟨_,_,q,_,hD⟩
     ·exact absurd (c1 j AD (Array.getElem?_eq_some_iff.1 ae).1) cl
     ·exact ⟨q,hD⟩
    refine .inl ⟨_,_,_,cj.trans tZ,v,rfl,c3,c4,c5,⟨fun y ax=> ?_,rfl⟩,fun j y ax ae=> ?_⟩
    ·obtain ⟨j,ae⟩:=List.mem_iff_getElem?.1 ax;rw [List.getElem?_drop] at ae;obtain ⟨q,aE⟩:=CU (1+j) y (by omega) (by simpa [crowd] using ae);exact ⟨q,aE.leaves⟩
    ·obtain ⟨q,aE⟩:=CU j y (by omega) ax;refine ⟨q,?_⟩;have e:(t++opsOf 0 g es).deaf j (t++opsOf 0 g es).size=Deaf t j:=EV (by omega) _ _;rw [e];exact aE.hears _
  | mk f=>
   cases i with
   | zero=>
    rcases a4 with aE|af|ua
    ·obtain ⟨_,aE⟩:=aE;obtain ⟨c1,v,es,c2,c3,c4,c5⟩:=aE γ _ hs (w.at d) t a3 tF rfl;have tZ:=runT_many_ended (P:=P) (sl:=kS) (i:=0) hi (show stepG P (0==0) g (w.at d)=_ from c2);have CU:∀j l4,0<j->gs[j]? =some l4->∃q,QuitsD P q (Deaf t j) l4:=fun j l4 AD ae=>by
      obtain ⟨qR,kT⟩:=aa j l4 ae;rcases sD j l4 qR ae kT with ⟨cl,_⟩|⟨_,_,q,_,hD⟩
      ·exact absurd (c1 j AD (Array.getElem?_eq_some_iff.1 ae).1) cl
      ·exact ⟨q,hD⟩
     refine .inl ⟨_,_,_,cj.trans tZ,v,rfl,c3,c4,c5,⟨fun y ax=> ?_,rfl⟩,fun j y ax ae=> ?_⟩
     ·obtain ⟨j,ae⟩:=List.mem_iff_getElem?.1 ax;rw [List.getElem?_drop] at ae;obtain ⟨q,aE⟩:=CU (1+j) y (by omega) (by simpa [crowd] using ae);exact ⟨q,aE.leaves⟩
     ·obtain ⟨q,aE⟩:=CU j y (by omega) ax;refine ⟨q,?_⟩;have e:(t++opsOf 0 g es).deaf j (t++opsOf 0 g es).size=Deaf t j:=EV (by omega) _ _;rw [e];exact aE.hears _
    ·obtain ⟨g',w',es,h',e1,e2,e3,e4,c,e5⟩:=af.2 _ dF;exact .inr (zQ e1 (L.loc _ _ tF bY a1 e3 e2 e4) vl PT (.inl (jh.Ag.running L (i:=0) e5)) (.nP ⟨f,c,rfl,rfl⟩) (fun q _ e=>by cases e) (.inl ⟨a1,s,_,g',rfl,a3,e5,.inl rfl⟩))
    ·obtain ⟨_,xy,ua⟩:=ua;rcases ua γ _ hs (w.at d) t a3 tF rfl with ⟨cl,bV⟩|⟨γ',g',w',es,h',cl,bV,dz,hD,rP,c,rQ⟩|⟨γ',g',child,w',es,h',hc,cl,bV,dz,hD,rP,rQ,s7,c,DY⟩
     ·exact .inr (block cl g rfl xy a1 ⟨s,.mk f,rfl,a3,.inr (.inr ⟨aG,xy,ua⟩)⟩ bV)
     ·exact .inr (zQ cl bV dz hD (.inl rP) (.nP ⟨f,c,rfl,rfl⟩) (fun q _ e=>by cases e) (.inl ⟨(L.main bV).2,γ',_,g',rfl,L.refl _ _,rQ,.inl rfl⟩))
     ·
      have tZ:=runT_crowd_spawn (sl:=kS) hi (show stepG P (0==0) g (w.at d)=_ from cl);obtain ⟨H6,YM⟩:=rQ.tree;have hj:gs.size≠0:=by omega
      have m3:∀j,j≠0->j≠gs.size->Deaf ((t++opsOf 0 g es).push {g:=0,fn:=g.frame.fn,pos:=g.frame.place,act:=.go gs.size} |>.push {g:=gs.size,fn:=child.frame.fn,pos:=g.frame.place,act:=.start}) j=Deaf t j:=fun j h0 ao=>by
       have e:((t++opsOf 0 g es).push {g:=0,fn:=g.frame.fn,pos:=g.frame.place,act:=.go gs.size} |>.push {g:=gs.size,fn:=child.frame.fn,pos:=g.frame.place,act:=.start})=((t++opsOf 0 g es)++#[{g:=0,fn:=g.frame.fn,pos:=g.frame.place,act:=.go gs.size}])++#[{g:=gs.size,fn:=child.frame.fn,pos:=g.frame.place,act:=.start}]:=by
        apply Array.ext';simp
       rw [e,Deaf_other _ (g':=gs.size) (fun e=>ao e.symm) _ (by simp),Deaf_other _ (g':=0) (fun e=>h0 e.symm) _ (by simp),EV h0]
      refine .inr ⟨_,_,(f c,ms++[Sum.inl H6],_),cj.trans tZ,Prod.Lex.left _ _ ⟨f,c,by simpa using H5,rfl⟩,_,w',kS,γ',cC (cC hs 0 h') gs.size hc,ms++[Sum.inl H6],f c,rfl,by simp [eJ],?_,fun j l4 qR ae kT=> ?_,rfl⟩
      ·have:((gs.setIfInBounds 0 g').push child).size=gs.size+1:=by simp
       rw [this];have e3:(t++((MemOp.ofEvents 0 g.frame.fn g.frame.place es).push {g:=0,fn:=g.frame.fn,pos:=g.frame.place,act:=.go gs.size} |>.push {g:=gs.size,fn:=child.frame.fn,pos:=g.frame.place,act:=.start}))=((t++opsOf 0 g es).push {g:=0,fn:=g.frame.fn,pos:=g.frame.place,act:=.go gs.size} |>.push {g:=gs.size,fn:=child.frame.fn,pos:=g.frame.place,act:=.start}):=by
        apply Array.ext';simp
       rw [e3];exact bV
      ·have e3:(t++((MemOp.ofEvents 0 g.frame.fn g.frame.place es).push {g:=0,fn:=g.frame.fn,pos:=g.frame.place,act:=.go gs.size} |>.push {g:=gs.size,fn:=child.frame.fn,pos:=g.frame.place,act:=.start}))=((t++opsOf 0 g es).push {g:=0,fn:=g.frame.fn,pos:=g.frame.place,act:=.go gs.size} |>.push {g:=gs.size,fn:=child.frame.fn,pos:=g.frame.place,act:=.start}):=by
        apply Array.ext';simp
       rw [e3];by_cases hL:j=gs.size
       ·subst hL;have:l4=child:=by
         have:((gs.setIfInBounds 0 g').push child)[gs.size]? =some child:=by
          rw [Array.getElem?_push];simp
         rw [this] at ae;exact (Option.some.inj ae).symm
        subst this;have auX:qR=Sum.inl H6:=by
         rw [eJ,List.getElem?_cons_succ,List.getElem?_append_right (Nat.le_refl _)] at kT;simpa using kT.symm
        subst auX;rw [kD];refine .inl ⟨rP,γ',H6,l4,rfl,L.refl _ _,?_,.inl rfl⟩;rw [eJ] at YM ⊢;exact YM
       ·have kr:(gs.setIfInBounds 0 g')[j]? =some l4:=by
         rw [Array.getElem?_push] at ae;simpa [hL] using ae
        have AB:j<gs.size:=by simpa using (Array.getElem?_eq_some_iff.1 kr).1
        rw [gr _ _ hL];cases j with
        | zero=>
         rw [Array.getElem?_setIfInBounds_self_of_lt bY] at kr;cases kr;simp at kT;subst kT;rw [kD];exact .inl ⟨(L.main bV).2,γ',_,g',rfl,L.refl _ _,DY,.inl rfl⟩
        | succ j=>
         rw [Array.getElem?_setIfInBounds_ne (by omega)] at kr;rw [gr _ _ (by omega)];have aAF:(Sum.inl mZ::ms)[j+1]? =some qR\/True:=.inr trivial;obtain ⟨y,ax⟩:=aa (j+1) l4 kr;have auY:y=qR:=by
          rw [List.getElem?_cons_succ] at kT ax;rw [List.getElem?_append_left (by omega),ax] at kT;exact Option.some.inj kT
         subst auY;exact (sD _ _ _ kr ax).stay (dz (j+1) (by omega) hL) (m3 _ (by omega) hL) (hD _)
   | succ i=>
    rcases a4 with aE|af|ua
    ·exact aE.elim
    ·obtain ⟨g',w',es,h',e1,e2,e3,e4,c,e5⟩:=af.2 _ dF;exact .inr (zQ e1 (L.loc _ _ tF bY a1 e3 e2 e4) vl PT (.inl (jh.Ag.running L (i:=i+1) e5)) (.nP ⟨f,c,rfl,rfl⟩) (fun q e=>by omega) (.inl ⟨a1,s,_,g',rfl,a3,e5,.inl rfl⟩))
    ·obtain ⟨_,xy,ua⟩:=ua;rcases ua γ _ hs (w.at d) t a3 tF bY a1 rfl with ⟨cl,bV⟩|⟨γ',g',w',es,h',cl,bV,dz,hD,⟨rP,q,rQ⟩|⟨rP,rQ,c,s7⟩⟩
     ·exact .inr (block cl g rfl xy a1 ⟨s,.mk f,rfl,a3,.inr (.inr ⟨aG,xy,ua⟩)⟩ bV)
     ·exact .inr (zQ cl bV dz hD rQ.status .DX (fun q e=>by omega) (.inr ⟨rP,by omega,q,rfl,rQ⟩))
     ·exact .inr (zQ cl bV dz hD (.inl rQ) (.nP ⟨f,c,rfl,rfl⟩) (fun q e=>by omega) (.inl ⟨rP,γ',_,g',rfl,L.refl _ _,s7,.inl rfl⟩))
 ·
  cases q with
  | zero=>rw [a4.1] at aG;cases aG
  | succ q=>
   rcases a4 with ⟨aP,_⟩|⟨_,g',es,hm,asv,ZL⟩
   ·rw [aP] at aG;cases aG
   have auZ:(i==0)=false:=by simp;omega
   refine .inr (zQ (γ':=γ) (h':=hs i) (by rw [auZ];exact asv _) (by rw [p9];exact L.mute _ _ tF a2 bY a1 hm) vl PT ZL.status (.aR (Nat.lt_succ_self q)) (fun q e=>by omega) (.inr ⟨a1,a2,q,rfl,?_⟩));rw [Deaf_own];exact ZL
theorem jh.runs{o3:L.o3}{m:Machine}{t:Trace}(I:L.Inv o3 m t):∃N last o w bt,runNT P (N+1) m t=(.ended o w,bt)/\runN P N m=.next last/\step P last=.ended o w/\Good P L.Post last o w bt:=
 run_of_inv L.apC L.Inv (Good P L.Post) (fun _ _ _=>L.aj1) o3 m t I
theorem jh.ends{γ:L.kA}{h:ab}{g:Goroutine}{w:World}(r:dp P true L.jC L.RI γ h g)(xS:L.dh γ 1 (fun j=>if j=0 then h else fun _=>none) w #[]):
  ∃N last o w' bt,runNT P (N+1) (solo g w) #[]=(.ended o w',bt)/\runN P N (solo g w)=.next last/\step P last=.ended o w'/\Good P L.Post last o w' bt:=by
 obtain ⟨hB,au0⟩:=r.tree;refine L.runs (o3:=(hB,[],_)) (m:=crowd #[g] w none) ⟨#[g],w,none,γ,_,[],hB,rfl,rfl,xS,fun i uP x hi aa=> ?_,rfl⟩;have:i=0:=by
  have:=(Array.getElem?_eq_some_iff.1 hi).1;simp at this;exact this
 subst this;simp at hi aa;subst hi aa;exact .inl ⟨(L.main xS).2,γ,hB,g,rfl,L.refl _ _,(by rw [if_pos rfl];exact au0),.inl rfl⟩
end
end
section
variable{P:Program}{main:Bool}{b:bn}{a:Act}{k todo:List Item}{cs:List Frame}{c:Frame}{w w':World}{es:Array Event}{fn:Func}{v:Value}
theorem ag5(hk:b.kind=.normal)(hd:a.defers=[])(aP:P.funcs[b.fn]? =some fn)(al:(results fn a.tmps).runT P w #[]=(.ok v w',es)):
  stepG P main (G {b.at a todo with mode:=.returning} (c::cs)) w=.go (G (c.finish v) cs) w' (seen P b.fn es):=by
 simp [-Sem.runT_eq,G,stepG,unwind,bn.at,hd,aP,al,doReturn,hk,GStep.after]
theorem JK{r:Nat}{args:Array Value}{ds:List Deferred}(hd:a.defers= {target:=.collected r,args}::ds)(al:(Instr.takeDeferred r).runT P w #[]=(.ok [] w',es)):
  stepG P main (G {b.at a todo with mode:=.returning} cs) w=.go (G {b.at {a with defers:=ds} todo with mode:=.returning} cs) w' (seen P b.fn es):=by
 simp [-Sem.runT_eq,G,stepG,unwind,bn.at,hd,al,GStep.after]
theorem ac0{l:Nat}(lj:b.ro=some l)(hk:b.kind≠.early)(al:(Instr.beginRound l).runT P w #[]=(.ok () w',es)):
  stepG P main (G (b.at a (.beginRound::k)) cs) w=.go (G (b.at a k) cs) w' (seen P b.fn es):=by
 have hJ:(b.kind==CallKind.early)=false:=by simpa using hk
 have hb:((do (Option.elim (some l) (stuck "beginRound: no round") Instr.beginRound);pure Next.skip):Sem Next).runT P w #[]=(.ok .skip w',es):=by
  show ((Instr.beginRound l).bind _).runT P w #[]=_;rw [Sem.runT_bind',al];rfl
 simp [-Sem.runT_eq,G,stepG,stepG.exec,stepG.apply,bn.at,lj,hJ,GStep.after,Frame.finish];have:Sem.runT P (do Instr.beginRound l;pure Next.skip) w #[]=(.ok .skip w',es):=hb;simp only [bind_pure_comp] at this;rw [this];simp
theorem acS{l:Nat}{jump:Option Code}(lj:b.ro=some l)(hk:b.kind=.normal)(ae:(k=[]/\jump=none)\/(∃k',k=.code .ret::k'/\jump=some .ret)\/(∃i k',k=.code (.exit i)::k'/\exitTo i k'=none/\jump=some (.exit i)))
  (al:(Instr.endRound l jump).runT P w #[]=(.ok v w',es)):
  stepG P main (G (b.at a k) (c::cs)) w=.go (G (c.finish v) cs) w' (seen P b.fn es):=by
 rcases ae with ⟨rfl,rfl⟩|⟨k',rfl,rfl⟩|⟨i,k',rfl,he,rfl⟩
 ·simp [-Sem.runT_eq,G,stepG,stepG.exec,bn.at,lj,al,doReturn,hk,GStep.after]
 ·simp [-Sem.runT_eq,G,stepG,stepG.exec,bn.at,lj,al,doReturn,hk,GStep.after]
 ·simp [-Sem.runT_eq,G,stepG,stepG.exec,bn.at,lj,al,doReturn,hk,GStep.after,he]
theorem acQ{l:Nat}{jump:Option Code}(al:(Instr.endLoop l).runT P w #[]=(.ok jump w',es)):
  stepG P main (G (b.at a (.endRangeFunc l::k)) cs) w=.go (G (b.at a ((jump.map Item.code).toList++k)) cs) w' (seen P b.fn es):=by
 simp [-Sem.runT_eq,G,stepG,stepG.exec,bn.at,al,GStep.after]
end
section
variable{P:Program}{main:Bool}{ah:Type}{S:Sys ah}
def kF(P:Program):List Deferred->ab->(ab->Prop)->Prop
 | [],h,K=>K h
 | {target:=.collected r,..}::ds,h,K=>bf P (Instr.takeDeferred r) h fun calls h'=>calls=[]/\kF P ds h' K
 | _,_,_=>False
theorem wO{α:Type}{Q:ah->ab->Goroutine->Prop}{s:ah}{h:ab}{g:Goroutine}{m:Sem α}{K:α->ab->Prop}{g':α->Goroutine}{fn:FuncId}(al:g.status=.running)
  (hs:∀w v w' es,m.runT P w #[]=(.ok v w',es)->K v h->True) (l:bf P m h K)
  (st:∀w v w' es h',m.runT P w #[]=(.ok v w',es)->K v h'->stepG P main g w=.go (g' v) w' (seen P fn es)/\dp P main S Q s h' (g' v)):dp P main S Q s h g:=by
 refine .step ⟨al,fun w dF=> ?_⟩;obtain ⟨v,w',h',es,e1,e2,e3,e4,e5⟩:=JU P m h K w #[] dF l;rw [Array.empty_append] at e1;obtain ⟨x,y⟩:=st w v w' es h' e1 e2;exact ⟨g' v,w',seen P fn es,h',x,e3,e4,fun e he=>e5 e (mem_seen he),y⟩
theorem Tw{b:bn}(hk:b.kind=.normal){fn:Func}(aP:P.funcs[b.fn]? =some fn){Q:ah->ab->Goroutine->Prop}{s:ah}{c:Frame}{cs:List Frame}{todo:List Item}{tmps:Array Value}{Post:ab->Value->Prop}
  (c1:∀h' v,Post h' v->dp P main S Q s h' (G (c.finish v) cs)):∀(ds:List Deferred) (h:ab),kF P ds h (fun h=>bf P (results fn tmps) h fun v h'=>Post h' v)->
   dp P main S Q s h (G {b.at ⟨tmps,ds⟩ todo with mode:=.returning} (c::cs)):=by
 intro ds
 induction ds with
 | nil=>
  intro h u;exact wO (g':=fun v=>G (c.finish v) cs) (fn:=b.fn) rfl (fun _ _ _ _ _ _=>trivial) u fun w v w' es h' e q=>⟨ag5 hk rfl aP e,c1 h' v q⟩
 | cons d ds aN=>
  intro h u;obtain ⟨t,args⟩:=d;cases t with
  | collected r=>
   exact wO (g':=fun _=>G {b.at ⟨tmps,ds⟩ todo with mode:=.returning} (c::cs)) (fn:=b.fn) rfl (fun _ _ _ _ _ _=>trivial) u fun w v w' es h' e q=>by
    obtain ⟨rfl,q⟩:=q;exact ⟨JK rfl e,aN h' q⟩
  | _=>exact u.elim
def AE(P:Program)(fn:Func)(Post:ah->ab->Value->Prop)(a:Act)(s:ah)(h:ab):Prop:=
 kF P a.defers h fun h=>bf P (results fn a.tmps) h fun v h'=>Post s h' v
theorem aey{f:FuncId}{fn:Func}{c:Code}{n:Nat}{args:Array Value}{s:ah}{h:ab}{Post:ah->ab->Value->Prop}(aP:P.funcs[f]? =some fn)(hb:fn.body=some c)(ao:fn.ntmps=n)
  (u:jM P main S ⟨f,.normal,none⟩ c (fun e=>match e with|.ext _=>fun _ _ _=>False|_=>AE P fn Post) ⟨args++Array.replicate (n- args.size) undef,[]⟩ s h):
  bI P main S f args s h Post:=by
 intro Q aY cs hc;have e:Frame.enter P f args .normal=(⟨f,.normal,none⟩:bn).at ⟨args++Array.replicate (n- args.size) undef,[]⟩ [.code c]:=by
  simp [Frame.enter,bn.at,aP,hb,ao]
 rw [e];refine yZ (by simp) u Q [] (aY::cs) fun e a s h q=> ?_;have fin:∀todo,AE P fn Post a s h->dp P main S Q s h (G {(⟨f,.normal,none⟩:bn).at a todo with mode:=.returning} (aY::cs)):=fun todo q=>
  Tw (b:=⟨f,.normal,none⟩) rfl aP (Post:=Post s) (fun h' v=>hc s h' v) a.defers h q
 cases e with
 | cB=>exact .ik rfl (fun w=>FV rfl) (fin [] q)
 | ext i=>exact q.elim
 | ret=>exact fun k₂=>.ik rfl (fun w=>FW rfl) (fin _ q)
def FX:eZ->Option Code
 | .cB=>none
 | .ext i=>some (.exit i)
 | .ret=>some .ret
theorem aez{l:Nat}{f:FuncId}{tmps:Array Value}{gN body:Code}{s:ah}{h:ab}{Post:ah->ab->Value->Prop}
  (u:jM P main S ⟨f,.normal,some l⟩ gN (fun e=>match e with
   | .cB=>fun a s h=>bf P (Instr.beginRound l) h fun _ h'=>jM P main S ⟨f,.normal,some l⟩ body (fun e a s h=>bf P (Instr.endRound l (FX e)) h fun v h'=>Post s h' v) a s h'
   | _=>fun _ _ _=>False) ⟨tmps,[]⟩ s h):kq P main S l f tmps gN body s h Post:=by
 intro Q aY cs hc;have e:Frame.round l f tmps gN body .normal=(⟨f,.normal,some l⟩:bn).at ⟨tmps,[]⟩ [.code gN,.beginRound,.code body]:=rfl;rw [e];refine yZ (by simp) u Q _ (aY::cs) fun e a s h q=> ?_;cases e with
 | cB=>
  refine wO (g':=fun _=>G ((⟨f,.normal,some l⟩:bn).at a [.code body]) (aY::cs)) (fn:=f) rfl (fun _ _ _ _ _ _=>trivial) q fun w v w' es h' e1 q=>⟨ac0 rfl (by simp) e1,?_⟩;refine yZ (by simp) q Q [] (aY::cs) fun e a s h q=> ?_;have fin:∀(k:List Item) (jump:Option Code),((k=[]/\jump=none)\/(∃k',k=.code .ret::k'/\jump=some .ret)\/(∃i k',k=.code (.exit i)::k'/\exitTo i k'=none/\jump=some (.exit i)))->jump=FX e->
    dp P main S Q s h (G ((⟨f,.normal,some l⟩:bn).at a k) (aY::cs)):=fun k jump ae e=>by
   subst e;exact wO (g':=fun v=>G (aY.finish v) cs) (fn:=f) rfl (fun _ _ _ _ _ _=>trivial) q fun w v w' es h' e1 q=>⟨acS rfl rfl ae e1,hc s h' v q⟩
  cases e with
  | cB=>exact fin [] none (.inl ⟨rfl,rfl⟩) rfl
  | ext i=>exact fun k₂ si=>fin _ _ (.inr (.inr ⟨i,k₂,rfl,by rw [si];rfl,rfl⟩)) rfl
  | ret=>exact fun k₂=>fin _ _ (.inr (.inl ⟨k₂,rfl,rfl⟩)) rfl
 | ext i=>exact q.elim
 | ret=>exact q.elim
end
end
end Go.Nk
