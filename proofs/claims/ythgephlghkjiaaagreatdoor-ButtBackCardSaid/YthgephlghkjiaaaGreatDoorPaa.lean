/- Part Paa of the proof of ButtBack: lemmas. -/
import Derived.Conc.Listed
import Derived.Conc.Own5
import Derived.Conc.Beside
set_option maxRecDepth 100000
set_option maxHeartbeats 4000000
set_option linter.all false
namespace Go.Proofs
end Go.Proofs
namespace Go.Nk
noncomputable section
open Go Go.Conc Go.Proofs
structure eI where
 obj:Obj
 own:Bool
abbrev ab:=Nat->Option eI
namespace ab
def In(h:ab)(w:World):Prop:=∀b x,h b=some x->w.heap[b]? =some x.obj
def put(h:ab)(b:Nat)(x:eI):ab:=fun c=>if c=b then some x else h c
def cell?(h:ab)(a:Addr):Option Value:=
 match h a.block with
 | some ⟨.cells c _ _,_⟩=>if a.spot.isSome then none else c[a.off]?
 | _=>none
def shape?(h:ab)(r:Nat):Option (TypeId×Nat):=
 match h r with
 | some ⟨.cells c t _,_⟩=>some (t,c.size)
 | _=>none
def frozen?(h:ab)(a:Addr):Bool:=
 match h a.block with
 | some ⟨.cells _ _ (lo,hi),_⟩=>lo<=a.off&&a.off<hi
 | _=>false
def owns(h:ab)(b:Nat):Bool:=match h b with|some x=>x.own|none=>false
def setCell(h:ab)(a:Addr)(v:Value):ab:=
 match h a.block with
 | some ⟨.cells c t f,p⟩=>h.put a.block ⟨.cells (if a.spot.isSome then c else c.setIfInBounds a.off v) t f,p⟩
 | _=>h
def freeze(h:ab)(a:Addr)(n:Nat):ab:=
 if n=0 then h else
 match h a.block with
 | some ⟨.cells c t (lo,hi),p⟩=>h.put a.block ⟨.cells c t (if lo==hi then (a.off,a.off+n) else (min lo a.off,max hi (a.off+n))),p⟩
 | _=>h
def mK:Obj->Bool
 | .cells .. =>false
 | _=>true
def aD(h h':ab):Prop:=∀b x,h b=some x->h' b=some x
end ab
def jG:Value->Bool
 | .agg _|.tuple _=>false
 | _=>true
def sa:Mark->Bool
 | .acquire _|.release _|.releaseMerge _|.disable|.enable|.read _|.write _=>false
 | _=>true
def bf(P:Program){α:Type}:Sem α->ab->(α->ab->Prop)->Prop
 | .pure a,h,Q=>Q a h
 | .load m a k,h,Q=>m=.plain/\match h.cell? a with
  | some v=>bf P (k v) h Q
  | none=>False
 | .store m a v k,h,Q=>m=.plain/\jG v=true/\h.owns a.block=true/\(h.cell? a).isSome=true/\h.frozen? a=false/\bf P k (h.setCell a v) Q
 | .new o k,h,Q=>∀b,h b=none->bf P (k b) (h.put b ⟨o,true⟩) Q
 | .shape r k,h,Q=>(h r).isSome=true/\bf P (k (h.shape? r)) h Q
 | .freeze a n k,h,Q=>h.owns a.block=true/\(h.shape? a.block).isSome=true/\bf P k (h.freeze a n) Q
 | .frozen a k,h,Q=>(h a.block).isSome=true/\bf P (k (h.frozen? a)) h Q
 | .getObj r k,h,Q=>match h r with
  | some x=>ab.mK x.obj=true/\x.obj.isChan=false/\bf P (k x.obj) h Q
  | none=>False
 | .setObj r o k,h,Q=>match h r with
  | some x=>ab.mK x.obj=true/\o.isChan=false/\x.own=true/\bf P k (h.put r ⟨o,true⟩) Q
  | none=>False
 | .choose q k,h,Q=>if q.forced then bf P (k 0) h Q else ∀t,bf P (k (q.cut t)) h Q
 | .sys _ _,_,_=>False
 | .program k,h,Q=>bf P (k P) h Q
 | .mark m k,h,Q=>sa m=true/\bf P k h Q
 | .halt _,_,_=>False
def qn(h:ab)(e:Event):Prop:=
 match e.loc with
 | .cell a=>e.sync=false/\∃x,h a.block=some x/\(e.write=true->x.own=true)
 | .obj r=>e.sync=false/\∃x,h r=some x/\(e.write=true->x.own=true)
 | .mark m=>sa m=true
 | _=>False
structure Fr(h:ab)(w:World)(h':ab)(w':World):Prop where
 tape:w'.tape=w.tape
 os:w'.os=w.os
 output:w'.output=w.output
 size:w.heap.size<=w'.heap.size
 other:∀b,b<w.heap.size->h.owns b=false->w'.heap[b]? =w.heap[b]?
 ro:∀b x,h b=some x->x.own=false->h' b=some x
 ext:∀b x,h b=some x->∃x',h' b=some x'/\x'.own=x.own
 fresh:∀b x',h' b=some x'->h b=none->w.heap.size<=b/\b<w'.heap.size/\x'.own=true
theorem SE{h:ab}{b:Nat}(e:h b=none):h.owns b=false:=by simp [ab.owns,e]
theorem yR{h:ab}{b:Nat}{x:eI}(e:h b=some x):h.owns b=x.own:=by simp [ab.owns,e]
theorem Fr.refl(h:ab)(w:World):Fr h w h w:=
 ⟨rfl,rfl,rfl,Nat.le_refl _,fun _ _ _=>rfl,fun _ _ e _=>e,fun _ x e=>⟨x,e,rfl⟩,fun b x' e n=>by rw [n] at e;cases e⟩
theorem Fr.owns{h h':ab}{w w':World}(f:Fr h w h' w'){b:Nat}(hb:b<w.heap.size)(e:h.owns b=false):h'.owns b=false:=by
 cases aa:h b with
 | none=>
  cases gl:h' b with
  | none=>exact SE gl
  | some x'=>have:=f.fresh b x' gl aa;omega
 | some x=>
  obtain ⟨x',e1,e2⟩:=f.ext b x aa;rw [yR e1,e2,<- yR aa,e]
theorem Fr.trans{h h₁ YJ:ab}{w w₁ YK:World}(f:Fr h w h₁ w₁)(g:Fr h₁ w₁ YJ YK):Fr h w YJ YK:=by
 refine ⟨g.tape.trans f.tape,g.os.trans f.os,g.output.trans f.output,Nat.le_trans f.size g.size,fun b hb e=> ?_,fun b x e o=>g.ro b x (f.ro b x e o) o,fun b x e=> ?_,fun b x' e n=> ?_⟩
 ·rw [g.other b (Nat.lt_of_lt_of_le hb f.size) (f.owns hb e),f.other b hb e]
 ·obtain ⟨Hu,e1,o1⟩:=f.ext b x e;obtain ⟨YL,e2,o2⟩:=g.ext b Hu e1;exact ⟨YL,e2,o2.trans o1⟩
 ·cases aa:h₁ b with
  | none=>
   obtain ⟨h1,h2,h3⟩:=g.fresh b x' e aa;exact ⟨Nat.le_trans f.size h1,h2,h3⟩
  | some Hu=>
   obtain ⟨h1,h2,h3⟩:=f.fresh b Hu aa n;obtain ⟨YL,e2,o2⟩:=g.ext b Hu aa;rw [e] at e2;obtain rfl:=Option.some.inj e2;exact ⟨h1,Nat.lt_of_lt_of_le h2 g.size,o2.trans h3⟩
theorem qn.ext{h h':ab}{w w':World}(f:Fr h w h' w'){e:Event}(k:qn h e):qn h' e:=by
 unfold qn at*
 split<;>rename_i af<;>simp only [af] at k
 ·obtain ⟨s,x,e1,o⟩:=k;obtain ⟨x',e2,o2⟩:=f.ext _ x e1;exact ⟨s,x',e2,fun hw=>o2.trans (o hw)⟩
 ·obtain ⟨s,x,e1,o⟩:=k;obtain ⟨x',e2,o2⟩:=f.ext _ x e1;exact ⟨s,x',e2,fun hw=>o2.trans (o hw)⟩
 ·exact k
section
variable{h:ab}{w:World}
theorem In.cell{a:Addr}{v:Value}(hi:h.In w)(hc:h.cell? a=some v):w.cell? a=some v:=by
 unfold ab.cell? at hc;split at hc
 ·rename_i c t f p aa;have:=hi _ _ aa;simp only [World.cell?,this];exact hc
 ·cases hc
theorem In.frozen{a:Addr}(hi:h.In w)(aa:(h a.block).isSome=true):w.frozen? a=h.frozen? a:=by
 obtain ⟨x,aa⟩:=Option.isSome_iff_exists.1 aa;have:=hi _ _ aa;obtain ⟨o,p⟩:=x;simp only [World.frozen?,ab.frozen?,this,aa];cases o<;>rfl
theorem In.shape{r:Nat}(hi:h.In w)(aa:(h r).isSome=true):w.shape? r=h.shape? r:=by
 obtain ⟨x,aa⟩:=Option.isSome_iff_exists.1 aa;have:=hi _ _ aa;obtain ⟨o,p⟩:=x;simp only [World.shape?,ab.shape?,this,aa];cases o<;>rfl
theorem In.lt{b:Nat}{x:eI}(hi:h.In w)(aa:h b=some x):b<w.heap.size:=by
 have:=hi b x aa;exact (Array.getElem?_eq_some_iff.1 this).1
theorem In.none(hi:h.In w):h w.heap.size=.none:=by
 cases aa:h w.heap.size with
 | none=>rfl
 | some x=>exact absurd (In.lt hi aa) (Nat.lt_irrefl _)
end
@[simp] theorem r5 (h:ab) (b:Nat) (x:eI):h.put b x b=some x:=by simp [ab.put]
theorem oH(h:ab){b c:Nat}(x:eI)(b7:c≠b):h.put b x c=h c:=by simp [ab.put,b7]
theorem SO{h:ab}{a:Addr}(hs:(h.cell? a).isSome=true):∃c t f p,h a.block=some ⟨.cells c t f,p⟩:=by
 unfold ab.cell? at hs;split at hs
 ·rename_i c t f p aa;exact ⟨c,t,f,p,aa⟩
 ·cases hs
theorem S2{h:ab}{a:Addr}{v:Value}{c:Array Value}{t:TypeId}{f:Nat×Nat}{p:Bool}(aa:h a.block=some ⟨.cells c t f,p⟩):
  h.setCell a v=h.put a.block ⟨.cells (if a.spot.isSome then c else c.setIfInBounds a.off v) t f,p⟩:=by
 unfold ab.setCell;rw [aa]
theorem In.K3{h:ab}{w w':World}{b:Nat}{x:eI}(hi:h.In w)(hb:w'.heap[b]? =some x.obj)(aQ:∀c,c≠b->w'.heap[c]? =w.heap[c]?):(h.put b x).In w':=by
 intro c y ax;by_cases hc:c=b
 ·subst hc;rw [r5] at ax;cases ax;exact hb
 ·rw [oH _ _ hc] at ax;rw [aQ c hc];exact hi c y ax
theorem MG{h:ab}{w w':World}{b:Nat}{x x':eI}(hb:h b=some x)(Cj:x.own=true)(apA:x'.own=true)(aj:w'.tape=w.tape)(vN:w'.os=w.os)(mT:w'.output=w.output)
  (hs:w'.heap.size=w.heap.size) (aQ:∀c,c≠b->w'.heap[c]? =w.heap[c]?):Fr h w (h.put b x') w':=by
 refine ⟨aj,vN,mT,Nat.le_of_eq hs.symm,fun c hc e=> ?_,fun c y e o=> ?_,fun c y e=> ?_,fun c c8 e n=> ?_⟩
 ·by_cases lg:c=b
  ·subst lg;rw [yR hb,Cj] at e;cases e
  ·exact aQ c lg
 ·by_cases lg:c=b
  ·subst lg;rw [hb] at e;cases e;rw [Cj] at o;cases o
  ·rw [oH _ _ lg];exact e
 ·by_cases lg:c=b
  ·subst lg;rw [hb] at e;cases e;exact ⟨x',r5 ..,apA.trans Cj.symm⟩
  ·exact ⟨y,by rw [oH _ _ lg];exact e,rfl⟩
 ·by_cases lg:c=b
  ·subst lg;rw [hb] at n;cases n
  ·rw [oH _ _ lg] at e;rw [n] at e;cases e
theorem ade(w:World)(a:Addr)(v:Value){c:Array Value}{t:TypeId}{f:Nat×Nat}(aa:w.heap[a.block]? =some (.cells c t f)):
  (w.setCell a v).heap[a.block]? =some (.cells (if a.spot.isSome then c else c.setIfInBounds a.off v) t f)/\∀b,b≠a.block->(w.setCell a v).heap[b]? =w.heap[b]? :=by
 refine ⟨?_,fun b hb=> ?_⟩
 ·simp only [World.setCell,Array.getElem?_modify,if_true,aa,Option.map_some]
 ·simp only [World.setCell,Array.getElem?_modify,if_neg (Ne.symm hb)]
theorem JU(P:Program){α:Type}(m:Sem α):∀(h:ab) (Q:α->ab->Prop) (w:World) (es:Array Event),h.In w->bf P m h Q->
  ∃a w' h' eA,m.runT P w es=(.ok a w',es++eA)/\Q a h'/\h'.In w'/\Fr h w h' w'/\∀e∈eA,qn h' e:=by
 induction m with
 | pure a=>exact fun h Q w es hi k=>⟨a,w,h,#[],by simp [Sem.runT],k,hi,.refl _ _,by simp⟩
 | load m a k aN=>
  intro h Q w es hi af;rw [bf] at af;obtain ⟨rfl,af⟩:=af;cases hc:h.cell? a with
  | none=>rw [hc] at af;exact af.elim
  | some v=>
   rw [hc] at af;obtain ⟨b,w',h',eA,e1,e2,e3,e4,e5⟩:=aN v h Q w (es.push ⟨.cell a,false,false⟩) hi af;obtain ⟨c,t,f,p,aa⟩:=SO (h:=h) (a:=a) (by rw [hc];rfl);refine ⟨b,w',h',#[⟨.cell a,false,false⟩]++eA,?_,e2,e3,e4,fun e he=> ?_⟩
   ·simp only [Sem.runT,In.cell hi hc];rw [show (Mode.plain==Mode.atomic)=false from rfl,e1];simp
   ·rcases Array.mem_append.1 he with he|he
    ·simp at he;subst he;obtain ⟨x',gl,_⟩:=e4.ext _ _ aa;exact ⟨rfl,x',gl,fun hw=>by cases hw⟩
    ·exact e5 e he
 | store m a v k aN=>
  intro h Q w es hi af;rw [bf] at af;obtain ⟨rfl,h1,aQ,hs,aP,af⟩:=af;obtain ⟨c,t,f,p,aa⟩:=SO hs;have aK:p=true:=by rw [yR aa] at aQ;exact aQ
  subst aK;obtain ⟨v0,CQ⟩:=Option.isSome_iff_exists.1 hs;have tV:=hi _ _ aa;obtain ⟨s1,s2⟩:=ade w a v (c:=c) (t:=t) (f:=f) tV;have Hv:=S2 (v:=v) aa;have dt:(h.setCell a v).In (w.setCell a v):=by
   rw [Hv];exact In.K3 hi s1 s2
  have HX:Fr h w (h.setCell a v) (w.setCell a v):=by
   rw [Hv];exact MG aa rfl rfl rfl rfl rfl (by simp [World.setCell]) s2
  obtain ⟨b,w',h',eA,e1,e2,e3,e4,e5⟩:=aN (h.setCell a v) Q (w.setCell a v) (es.push ⟨.cell a,true,false⟩) dt af;refine ⟨b,w',h',#[⟨.cell a,true,false⟩]++eA,?_,e2,e3,HX.trans e4,fun e he=> ?_⟩
  ·have auP:w.frozen? a=false:=by rw [In.frozen hi (by rw [aa];rfl)];exact aP
   have gm:k.runT P (w.setCell a v) (es.push ⟨.cell a,true,Mode.plain==Mode.atomic⟩)=_:=e1;cases v<;>simp [jG] at h1<;>simp only [Sem.runT,In.cell hi CQ,auP,Bool.false_eq_true,if_false]<;>rw [gm]<;>simp
  ·rcases Array.mem_append.1 he with he|he
   ·simp at he;subst he;obtain ⟨x',gl,aO⟩:=(HX.trans e4).ext _ _ aa;exact ⟨rfl,x',gl,fun _=>aO⟩
   ·exact e5 e he
 | new o k aN=>
  intro h Q w es hi af;have ao:=In.none hi;have sB:=af w.heap.size ao;have dt:(h.put w.heap.size ⟨o,true⟩).In {w with heap:=w.heap.push o}:=by
   intro c y ax;by_cases hc:c=w.heap.size
   ·subst hc;rw [r5] at ax;cases ax;simp
   ·rw [oH _ _ hc] at ax;have:=In.lt hi ax;have e:=hi c y ax;simp only [Array.getElem?_push,if_neg hc];exact e
  obtain ⟨b,w',h',eA,e1,e2,e3,e4,e5⟩:=aN _ _ Q {w with heap:=w.heap.push o} es dt sB;refine ⟨b,w',h',eA,by simp only [Sem.runT];exact e1,e2,e3,Fr.trans ?_ e4,e5⟩;refine ⟨rfl,rfl,rfl,by simp,fun c hc _=> ?_,fun c y e aO=> ?_,fun c y e=> ?_,fun c c8 e n=> ?_⟩
  ·simp only [Array.getElem?_push];rw [if_neg (Nat.ne_of_lt hc)]
  ·by_cases lg:c=w.heap.size
   ·subst lg;rw [ao] at e;cases e
   ·rw [oH _ _ lg];exact e
  ·by_cases lg:c=w.heap.size
   ·subst lg;rw [ao] at e;cases e
   ·exact ⟨y,by rw [oH _ _ lg];exact e,rfl⟩
  ·by_cases lg:c=w.heap.size
   ·subst lg;rw [r5] at e;cases e;exact ⟨Nat.le_refl _,by simp,rfl⟩
   ·rw [oH _ _ lg,n] at e;cases e
 | shape r k aN=>
  intro h Q w es hi af;obtain ⟨hs,af⟩:=af;obtain ⟨b,w',h',eA,e1,e2,e3,e4,e5⟩:=aN _ h Q w es hi af;exact ⟨b,w',h',eA,by simp only [Sem.runT,In.shape hi hs];exact e1,e2,e3,e4,e5⟩
 | freeze a n k aN=>
  intro h Q w es hi af;rw [bf] at af;obtain ⟨aQ,lh,af⟩:=af;have hh:(h.freeze a n).In (w.freeze a n)/\Fr h w (h.freeze a n) (w.freeze a n):=by
   by_cases ao:n=0
   ·simp only [ab.freeze,World.freeze,if_pos ao];exact ⟨hi,.refl _ _⟩
   ·obtain ⟨c,t,lo,hh,p,aa⟩:∃c t lo hh p,h a.block=some ⟨.cells c t (lo,hh),p⟩:=by
     unfold ab.shape? at lh;split at lh
     ·rename_i c t f p aa;exact ⟨c,t,f.1,f.2,p,aa⟩
     ·cases lh
    have aK:p=true:=by rw [yR aa] at aQ;exact aQ
    subst aK;have tV:=hi _ _ aa;have e1:h.freeze a n=h.put a.block ⟨.cells c t (if lo==hh then (a.off,a.off+n) else (min lo a.off,max hh (a.off+n))),true⟩:=by
     unfold ab.freeze;rw [if_neg ao,aa]
    have s1:(w.freeze a n).heap[a.block]? =some (.cells c t (if lo==hh then (a.off,a.off+n) else (min lo a.off,max hh (a.off+n)))):=by
     simp only [World.freeze,if_neg ao,Array.getElem?_modify,if_true,tV,Option.map_some]
    have s2:∀b,b≠a.block->(w.freeze a n).heap[b]? =w.heap[b]? :=fun b hb=>by simp only [World.freeze,if_neg ao,Array.getElem?_modify,if_neg (Ne.symm hb)]
    rw [e1];exact ⟨In.K3 hi s1 s2,MG aa rfl rfl (by simp [World.freeze,ao]) (by simp [World.freeze,ao]) (by simp [World.freeze,ao]) (by simp [World.freeze,ao]) s2⟩
  obtain ⟨b,w',h',eA,e1,e2,e3,e4,e5⟩:=aN (h.freeze a n) Q (w.freeze a n) es hh.1 af;exact ⟨b,w',h',eA,by simp only [Sem.runT];exact e1,e2,e3,hh.2.trans e4,e5⟩
 | frozen a k aN=>
  intro h Q w es hi af;obtain ⟨hs,af⟩:=af;obtain ⟨b,w',h',eA,e1,e2,e3,e4,e5⟩:=aN _ h Q w es hi af;exact ⟨b,w',h',eA,by simp only [Sem.runT,In.frozen hi hs];exact e1,e2,e3,e4,e5⟩
 | getObj r k aN=>
  intro h Q w es hi af;cases aa:h r with
  | none=>rw [bf,aa] at af;exact af.elim
  | some x=>
   rw [bf,aa] at af;obtain ⟨hc,HY,af⟩:=af;have tV:=hi _ _ aa;obtain ⟨b,w',h',eA,e1,e2,e3,e4,e5⟩:=aN x.obj h Q w (es.push ⟨.obj r,false,false⟩) hi af;refine ⟨b,w',h',#[⟨.obj r,false,false⟩]++eA,?_,e2,e3,e4,fun e he=> ?_⟩
   ·obtain ⟨o,p⟩:=x;simp only at hc HY tV e1;cases o<;>simp [ab.mK] at hc<;>simp only [Sem.runT,tV,HY]<;>rw [e1]<;>simp
   ·rcases Array.mem_append.1 he with he|he
    ·simp at he;subst he;obtain ⟨x',gl,_⟩:=e4.ext _ _ aa;exact ⟨rfl,x',gl,fun hw=>by cases hw⟩
    ·exact e5 e he
 | setObj r o k aN=>
  intro h Q w es hi af;cases aa:h r with
  | none=>rw [bf,aa] at af;exact af.elim
  | some x=>
   rw [bf,aa] at af;obtain ⟨hc,HY,Cj,af⟩:=af;have tV:=hi _ _ aa;have bY:=In.lt hi aa;have s1:({w with heap:=w.heap.setIfInBounds r o}:World).heap[r]? =some o:=by simp [bY]
   have s2:∀b,b≠r->({w with heap:=w.heap.setIfInBounds r o}:World).heap[b]? =w.heap[b]? :=fun b hb=>by simp [Array.getElem?_setIfInBounds_ne (Ne.symm hb)]
   have dt:(h.put r ⟨o,true⟩).In {w with heap:=w.heap.setIfInBounds r o}:=In.K3 hi s1 s2;have HX:Fr h w (h.put r ⟨o,true⟩) {w with heap:=w.heap.setIfInBounds r o}:=MG aa Cj rfl rfl rfl rfl (by simp) s2;obtain ⟨b,w',h',eA,e1,e2,e3,e4,e5⟩:=aN (h.put r ⟨o,true⟩) Q {w with heap:=w.heap.setIfInBounds r o} (es.push ⟨.obj r,true,false⟩) dt af;refine ⟨b,w',h',#[⟨.obj r,true,false⟩]++eA,?_,e2,e3,HX.trans e4,fun e he=> ?_⟩
   ·obtain ⟨aO,p⟩:=x;simp only at hc tV;cases aO<;>simp [ab.mK] at hc<;>simp only [Sem.runT,tV,HY]<;>rw [e1]<;>simp
   ·rcases Array.mem_append.1 he with he|he
    ·simp at he;subst he;obtain ⟨x',gl,aO⟩:=e4.ext _ _ (r5 h r ⟨o,true⟩);exact ⟨rfl,x',gl,fun _=>aO⟩
    ·exact e5 e he
 | choose q k aN=>
  intro h Q w es hi af;rw [bf] at af;by_cases aE:q.forced=true
  ·rw [if_pos aE] at af;obtain ⟨b,w',h',eA,e1,e2,e3,e4,e5⟩:=aN 0 h Q w es hi af;exact ⟨b,w',h',eA,by simp only [Sem.runT,aE,if_true];exact e1,e2,e3,e4,e5⟩
  ·rw [if_neg aE] at af;have dt:h.In {w with drawn:=w.drawn+1}:=hi;obtain ⟨b,w',h',eA,e1,e2,e3,e4,e5⟩:=aN _ h Q {w with drawn:=w.drawn+1} es dt (af (w.tape w.drawn q));refine ⟨b,w',h',eA,by simp only [Sem.runT,aE,Bool.false_eq_true,if_false];exact e1,e2,e3,Fr.trans (w₁:= {w with drawn:=w.drawn+1}) (h₁:=h) ⟨rfl,rfl,rfl,Nat.le_refl _,fun _ _ _=>rfl,fun _ _ e _=>e,fun _ x e=>⟨x,e,rfl⟩,fun b x' e n=>by rw [n] at e;cases e⟩ e4,e5⟩
 | sys c k=>exact fun h Q w es hi af=>af.elim
 | program k aN=>
  intro h Q w es hi af;obtain ⟨b,w',h',eA,e1,e2,e3,e4,e5⟩:=aN P h Q w es hi af;exact ⟨b,w',h',eA,by simp only [Sem.runT];exact e1,e2,e3,e4,e5⟩
 | mark m k aN=>
  intro h Q w es hi af;obtain ⟨hm,af⟩:=af;obtain ⟨b,w',h',eA,e1,e2,e3,e4,e5⟩:=aN h Q w (es.push ⟨.mark m,false,true⟩) hi af;refine ⟨b,w',h',#[⟨.mark m,false,true⟩]++eA,by simp only [Sem.runT];rw [e1];simp,e2,e3,e4,fun e he=> ?_⟩;rcases Array.mem_append.1 he with he|he
  ·simp at he;subst he;exact hm
  ·exact e5 e he
 | halt x=>exact fun h Q w es hi af=>af.elim
section
variable(P:Program){α β:Type}(h:ab)
theorem oF(m:Sem α):∀{h:ab} {Q R:α->ab->Prop},(∀a h',Q a h'->R a h')->bf P m h Q->bf P m h R:=by
 induction m with
 | pure a=>exact fun k q=>k _ _ q
 | load m a k aN=>
  intro h Q R qr l;rw [bf] at l ⊢;refine ⟨l.1,?_⟩;have l3:=l.2;cases hc:h.cell? a with
  | none=>rw [hc] at l3;exact l3
  | some v=>rw [hc] at l3;exact aN v qr l3
 | store m a v k aN=>exact fun qr ⟨a1,a2,a3,a4,a5,l⟩=>⟨a1,a2,a3,a4,a5,aN qr l⟩
 | new o k aN=>exact fun qr l b hb=>aN b qr (l b hb)
 | shape r k aN=>exact fun qr ⟨a,l⟩=>⟨a,aN _ qr l⟩
 | freeze a n k aN=>exact fun qr ⟨a,b,l⟩=>⟨a,b,aN qr l⟩
 | frozen a k aN=>exact fun qr ⟨a,l⟩=>⟨a,aN _ qr l⟩
 | getObj r k aN=>
  intro h Q R qr l;rw [bf] at l ⊢;cases aa:h r with
  | none=>rw [aa] at l;exact l
  | some x=>rw [aa] at l;exact ⟨l.1,l.2.1,aN _ qr l.2.2⟩
 | setObj r o k aN=>
  intro h Q R qr l;rw [bf] at l ⊢;cases aa:h r with
  | none=>rw [aa] at l;exact l
  | some x=>rw [aa] at l;exact ⟨l.1,l.2.1,l.2.2.1,aN qr l.2.2.2⟩
 | choose q k aN=>
  intro h Q R qr l;rw [bf] at l ⊢;split
  ·rename_i aE;rw [if_pos aE] at l;exact aN _ qr l
  ·rename_i aE;rw [if_neg aE] at l;exact fun t=>aN _ qr (l t)
 | sys c k=>exact fun _ l=>l
 | program k aN=>exact fun qr l=>aN _ qr l
 | mark m k aN=>exact fun qr ⟨a,l⟩=>⟨a,aN qr l⟩
 | halt x=>exact fun _ l=>l
theorem S3(m:Sem α)(f:α->Sem β):∀(h:ab) (Q:β->ab->Prop),bf P (m.bind f) h Q=bf P m h fun a h'=>bf P (f a) h' Q:=by
 induction m with
 | pure a=>exact fun h Q=>rfl
 | load m a k aN=>intro h Q;simp only [Sem.bind,bf,aN]
 | store m a v k aN=>intro h Q;simp only [Sem.bind,bf,aN]
 | new o k aN=>intro h Q;simp only [Sem.bind,bf,aN]
 | shape r k aN=>intro h Q;simp only [Sem.bind,bf,aN]
 | freeze a n k aN=>intro h Q;simp only [Sem.bind,bf,aN]
 | frozen a k aN=>intro h Q;simp only [Sem.bind,bf,aN]
 | getObj r k aN=>intro h Q;simp only [Sem.bind,bf,aN]
 | setObj r o k aN=>intro h Q;simp only [Sem.bind,bf,aN]
 | choose q k aN=>intro h Q;simp only [Sem.bind,bf,aN]
 | sys c k=>intro h Q;simp only [Sem.bind,bf]
 | program k aN=>intro h Q;simp only [Sem.bind,bf,aN]
 | mark m k aN=>intro h Q;simp only [Sem.bind,bf,aN]
 | halt x=>intro h Q;simp only [Sem.bind,bf]
theorem aV(m:Sem α)(f:α->Sem β)(Q:β->ab->Prop):bf P (m >>= f) h Q=bf P m h fun a h'=>bf P (f a) h' Q:=S3 P m f h Q
theorem Bx(m:Sem α)(f:α->β)(Q:β->ab->Prop):bf P (Functor.map f m) h Q=bf P m h fun a h'=>Q (f a) h':=by
 show bf P (m.bind _) h Q=_;rw [S3];rfl
theorem bh(a:α)(Q:α->ab->Prop):bf P (Pure.pure a:Sem α) h Q=Q a h:=rfl
theorem Ky(c:Prop)[Decidable c](x y:Sem α)(Q:α->ab->Prop):bf P (if c then x else y) h Q=if c then bf P x h Q else bf P y h Q:=by split<;>rfl
theorem mJ(Q:Program->ab->Prop):bf P program h Q=Q P h:=rfl
theorem Tt(m:Mark)(Q:Unit->ab->Prop):bf P (mark m) h Q=(sa m=true/\Q () h):=rfl
theorem qX(o:Obj)(Q:Nat->ab->Prop):bf P (newObj o) h Q=∀b,h b=none->Q b (h.put b ⟨o,true⟩):=rfl
theorem yS(q:Question)(Q:Nat->ab->Prop):bf P (choose q) h Q=if q.forced then Q 0 h else ∀t,Q (q.cut t) h:=rfl
end
structure bn where
 fn:FuncId
 kind:CallKind:=.normal
 ro:Option Nat:=none
def bn.at(b:bn)(a:Act)(k:List Item):Frame:= {fn:=b.fn,tmps:=a.tmps,todo:=k,defers:=a.defers,mode:=.run,kind:=b.kind,roundOf:=b.ro}
structure Sys(ah:Type) where
 nO:ah->ab->Goroutine->(ah->ab->Goroutine->Prop)->Prop
 mono:∀{s h g} {X Y:ah->ab->Goroutine->Prop},(∀s h g,X s h g->Y s h g)->nO s h g X->nO s h g Y
section
variable(P:Program)(main:Bool)
def Ae(h:ab)(g:Goroutine)(X:ab->Goroutine->Prop):Prop:=
 g.status=.running/\∀w,h.In w->∃g' w' es h',stepG P main g w=.go g' w' es/\h'.In w'/\Fr h w h' w'/\(∀e∈es,qn h' e)/\X h' g'
variable{ah:Type}(S:Sys ah)
def dp(Q:ah->ab->Goroutine->Prop)(s:ah)(h:ab)(g:Goroutine):Prop:=
 ∀X:ah->ab->Goroutine->Prop,(∀s h g,Q s h g->X s h g)->(∀s h g,Ae P main h g (X s)->X s h g)->(∀s h g,S.nO s h g X->X s h g)->X s h g
end
section
variable{P:Program}{main:Bool}{ah:Type}{S:Sys ah}{Q R:ah->ab->Goroutine->Prop}{s:ah}{h:ab}{g:Goroutine}
theorem Ae.mono{X Y:ab->Goroutine->Prop}(A6:∀h g,X h g->Y h g)(l:Ae P main h g X):Ae P main h g Y:=
 ⟨l.1,fun w hw=>let ⟨g',w',es,h',e1,e2,e3,e4,e5⟩:=l.2 w hw;⟨g',w',es,h',e1,e2,e3,e4,A6 _ _ e5⟩⟩
theorem dp.done(q:Q s h g):dp P main S Q s h g:=fun _ x _ _=>x _ _ _ q
theorem dp.step(l:Ae P main h g (dp P main S Q s)):dp P main S Q s h g:=
 fun X x y z=>y _ _ _ (l.mono fun _ _ r=>r X x y z)
theorem dp.sync(l:S.nO s h g (dp P main S Q)):dp P main S Q s h g:=
 fun X x y z=>z _ _ _ (S.mono (fun _ _ _ r=>r X x y z) l)
theorem dp.bind(r:dp P main S Q s h g)(k:∀s h g,Q s h g->dp P main S R s h g):dp P main S R s h g:=
 r (dp P main S R) k (fun _ _ _ l=>.step l) (fun _ _ _ l=>.sync l)
theorem dp.ik{g':Goroutine}(al:g.status=.running)(hs:∀w,stepG P main g w=.go g' w #[])(r:dp P main S Q s h g'):dp P main S Q s h g:=
 .step ⟨al,fun w hw=>⟨g',w,#[],h,hs w,hw,.refl _ _,by simp,r⟩⟩
end
section
variable{P:Program}{main:Bool}{b:bn}{a:Act}{k:List Item}{cs:List Frame}{w:World}
theorem bn.eval(x:Operand)(todo:List Item):(b.at a todo).eval x=a.eval x:=by cases x<;>rfl
theorem bn.GK(todo:List Item):(b.at a todo).eval=a.eval:=funext fun x=>bn.eval x todo
theorem ajT:stepG P main (G (b.at a (.code .skip::k)) cs) w=.go (G (b.at a k) cs) w:=by simp [G,stepG,stepG.exec,bn.at]
theorem ag1{l:Nat}:stepG P main (G (b.at a (.code (.label l)::k)) cs) w=.go (G (b.at a k) cs) w:=by simp [G,stepG,stepG.exec,bn.at]
theorem adN{id:Nat}:stepG P main (G (b.at a (.inBlock id::k)) cs) w=.go (G (b.at a k) cs) w:=by simp [G,stepG,stepG.exec,bn.at]
theorem adO{c:Code}:stepG P main (G (b.at a (.inScope c::k)) cs) w=.go (G (b.at a k) cs) w:=by simp [G,stepG,stepG.exec,bn.at]
theorem amY{x y:Code}:stepG P main (G (b.at a (.code (.seq x y)::k)) cs) w=.go (G (b.at a (.code x::.code y::k)) cs) w:=by simp [G,stepG,stepG.exec,bn.at]
theorem Vy{c:Operand}{x y:Code}{t:Bool}(h:a.eval c=.bool t):
  stepG P main (G (b.at a (.code (.cond c x y)::k)) cs) w=.go (G (b.at a (.code (if t then x else y)::k)) cs) w:=by
 have h':(b.at a (.code (.cond c x y)::k)).eval c=.bool t:=by rw [bn.eval];exact h
 simp only [bn.at] at h';simp [G,stepG,stepG.exec,bn.at,h']
theorem ag2{id:Nat}{c:Code}:stepG P main (G (b.at a (.code (.block id c)::k)) cs) w=.go (G (b.at a (.code c::.inBlock id::k)) cs) w:=by simp [G,stepG,stepG.exec,bn.at]
theorem ajU{c:Code}:stepG P main (G (b.at a (.code (.loop c)::k)) cs) w=.go (G (b.at a (.code c::.inLoop c::k)) cs) w:=by simp [G,stepG,stepG.exec,bn.at]
theorem aev{c:Code}:stepG P main (G (b.at a (.inLoop c::k)) cs) w=.go (G (b.at a (.code c::.inLoop c::k)) cs) w:=by simp [G,stepG,stepG.exec,bn.at]
theorem ag3{c:Code}:stepG P main (G (b.at a (.code (.scope c)::k)) cs) w=.go (G (b.at a (.code c::.inScope c::k)) cs) w:=by simp [G,stepG,stepG.exec,bn.at]
theorem ajV{id:Nat}{k':List Item}(h:exitTo id k=some k'):stepG P main (G (b.at a (.code (.exit id)::k)) cs) w=.go (G (b.at a k') cs) w:=by simp [G,stepG,stepG.exec,bn.at,h]
theorem aew{id:Nat}{ops:Array Oper}:stepG P main (G (b.at a (.code (.region id ops false)::k)) cs) w=.go (G (b.at a (.inRegion ops (List.range ops.size)::k)) cs) w:=by simp [G,stepG,stepG.exec,bn.at]
theorem acR{id:Nat}{ops:Array Oper}:∃t,stepG P main (G (b.at a (.code (.region id ops true)::k)) cs) w=.go (G (b.at a (.inRegion ops (Region.schedule (P.follows .mixedOrders) ops t)::k)) cs) {w with drawn:=w.drawn+1}:=
 ⟨_,by simp [G,stepG,stepG.exec,bn.at,choose,Sem.run,Question.forced];rfl⟩
theorem acZ{ops:Array Oper}:stepG P main (G (b.at a (.inRegion ops []::k)) cs) w=.go (G (b.at a k) cs) w:=by simp [G,stepG,stepG.exec,bn.at]
theorem FV(al:b.ro=none):stepG P main (G (b.at a []) cs) w=.go (G {b.at a [] with mode:=.returning} cs) w:=by simp [G,stepG,stepG.exec,bn.at,al]
theorem FW(al:b.ro=none):stepG P main (G (b.at a (.code .ret::k)) cs) w=.go (G {b.at a (.code .ret::k) with mode:=.returning} cs) w:=by simp [G,stepG,stepG.exec,bn.at,al]
theorem bn.finish_at(b:bn)(a:Act)(ops:Array Oper)(i:Nat)(rest:List Nat)(k:List Item)(v:Value):
  (b.at a (.inRegion ops (i::rest)::k)).finish v=b.at (a.put ((ops[i]?).bind (·.dst)) v) (.inRegion ops rest::k):=by
 cases h:(ops[i]?).bind (·.dst)<;>simp [Frame.finish,bn.at,Act.put,h]
theorem adq{ops:Array Oper}{i:Nat}{rest:List Nat}{o:Oper}(aQ:ops[i]? =some o)(hw:Region.wanted o (yielded ops a.tmps)=false):
  stepG P main (G (b.at a (.inRegion ops (i::rest)::k)) cs) w=.go (G (b.at (a.put o.dst undef) (.inRegion ops rest::k)) cs) w #[]:=by
 have n5:(b.at a (.inRegion ops (i::rest)::k)).finish undef=b.at (a.put o.dst undef) (.inRegion ops rest::k):=by rw [bn.finish_at,aQ];rfl
 rw [<- n5];simp [G,stepG,stepG.exec,bn.at,aQ,hw]
theorem ajW{ops:Array Oper}{i:Nat}{rest:List Nat}(aQ:ops[i]? =none):
  stepG P main (G (b.at a (.inRegion ops (i::rest)::k)) cs) w=.go (G (b.at a (.inRegion ops rest::k)) cs) w #[]:=by
 simp [G,stepG,stepG.exec,bn.at,aQ,Frame.finish]
def lE(b:bn)(o:Oper):Bool:=match o.op,b.ro with|.defer _,some _=>true|_,_=>false
theorem K4{ops:Array Oper}{i:Nat}{rest:List Nat}{o:Oper}(aQ:ops[i]? =some o)(hw:Region.wanted o (yielded ops a.tmps)=true)(hd:lE b o=false):
  stepG P main (G (b.at a (.inRegion ops (i::rest)::k)) cs) w=stepG.apply P true (b.at a (.inRegion ops (i::rest)::k)) cs none (execOp a.eval o) w:=by
 have he:=bn.GK (b:=b) (a:=a) (.inRegion ops (i::rest)::k);simp only [bn.at] at he;cases lj:b.ro with
 | none=>simp [G,stepG,stepG.exec,stepG.oper,Frame.oper?,bn.at,aQ,hw,lj] at he ⊢;rw [he]
 | some l=>
  simp only [lE,lj] at hd;simp [G,stepG,stepG.exec,stepG.oper,Frame.oper?,bn.at,aQ,hw,lj] at he ⊢;cases aF:o.op<;>simp [aF] at hd ⊢ <;>rw [he]
def PR(b:bn)(a:Act)(o:Oper)(ops:Array Oper)(i:Nat)(rest:List Nat)(k:List Item)(cs:List Frame)(P:Program):Next->Option Goroutine
 | .value v=>some (G (b.at (a.put o.dst v) (.inRegion ops rest::k)) cs)
 | .skip=>some (G (b.at (a.put o.dst undef) (.inRegion ops rest::k)) cs)
 | .defer d=>some (G (b.at ({a with defers:=d::a.defers}.put o.dst undef) (.inRegion ops rest::k)) cs)
 | .enter f args=>some (G (Frame.enter P f args .normal) (b.at a (.inRegion ops (i::rest)::k)::cs))
 | .round l f tmps assign body=>some (G (Frame.round l f tmps assign body .normal) (b.at a (.inRegion ops (i::rest)::k)::cs))
 | _=>none
theorem tq{ops:Array Oper}{i:Nat}{rest:List Nat}{o:Oper}(aQ:ops[i]? =some o)(hw:Region.wanted o (yielded ops a.tmps)=true)(hd:lE b o=false)(hk:b.kind≠.early)
  {ar:Next} {w':World} {es:Array Event} {g':Goroutine} (al:(execOp a.eval o).runT P w #[]=(.ok ar w',es)) (ao:PR b a o ops i rest k cs P ar=some g'):
  stepG P main (G (b.at a (.inRegion ops (i::rest)::k)) cs) w=.go g' w' (seen P b.fn es):=by
 have hJ:(b.kind==CallKind.early)=false:=by simpa using hk
 have n5:∀v,(b.at a (.inRegion ops (i::rest)::k)).finish v=b.at (a.put o.dst v) (.inRegion ops rest::k):=fun v=>by rw [bn.finish_at,aQ];rfl
 have apB:∀d v,({b.at a (.inRegion ops (i::rest)::k) with defers:=d::(b.at a (.inRegion ops (i::rest)::k)).defers}:Frame).finish v=b.at ({a with defers:=d::a.defers}.put o.dst v) (.inRegion ops rest::k):=fun d v=>by
  have:=bn.finish_at b {a with defers:=d::a.defers} ops i rest k v;rw [aQ] at this;exact this
 rw [K4 aQ hw hd];unfold stepG.apply;simp only [if_true,al];have Og:(b.at a (.inRegion ops (i::rest)::k)).kind=b.kind:=rfl;simp only [Og,hJ,Bool.false_eq_true,if_false];cases ar<;>simp only [PR,Option.some.injEq,reduceCtorEq] at ao
 ·subst ao;simp only [GStep.after,n5];rfl
 ·subst ao;simp only [GStep.after,n5];rfl
 ·subst ao;simp only [GStep.after];rfl
 ·subst ao;simp only [GStep.after];rfl
 ·subst ao;simp only [GStep.after,Array.append_empty];exact congrArg (fun aY=>GStep.go {frame:=aY,callers:=cs,status:=.running,dying:=none} w' (seen P b.fn es)) (apB _ undef)
end
inductive eZ where
 | cB
 | ext (id:Nat)
 | ret
section
variable(P:Program)(main:Bool){ah:Type}(S:Sys ah)
def bI(f:FuncId)(args:Array Value)(s:ah)(h:ab)(Post:ah->ab->Value->Prop):Prop:=
 ∀(Q:ah->ab->Goroutine->Prop) (c:Frame) (cs:List Frame),(∀ai h' v,Post ai h' v->dp P main S Q ai h' (G (c.finish v) cs))->dp P main S Q s h (G (Frame.enter P f args .normal) (c::cs))
def kq(l:Nat)(f:FuncId)(tmps:Array Value)(assign body:Code)(s:ah)(h:ab)(Post:ah->ab->Value->Prop):Prop:=
 ∀(Q:ah->ab->Goroutine->Prop) (c:Frame) (cs:List Frame),(∀ai h' v,Post ai h' v->dp P main S Q ai h' (G (c.finish v) cs))->dp P main S Q s h (G (Frame.round l f tmps assign body .normal) (c::cs))
def Af(Q:ah->ab->Goroutine->Prop)(b:bn)(k:List Item)(cs:List Frame):eZ->Act->ah->ab->Prop
 | .cB,a,s,h=>dp P main S Q s h (G (b.at a k) cs)
 | .ext i,a,s,h=>∀k₂,exitTo i k₂=exitTo i k->dp P main S Q s h (G (b.at a (.code (.exit i)::k₂)) cs)
 | .ret,a,s,h=>∀k₂,dp P main S Q s h (G (b.at a (.code .ret::k₂)) cs)
def upon(o:Oper)(a:Act)(s:ah)(N:Act->ah->ab->Prop):Next->ab->Prop
 | .value v,h=>N (a.put o.dst v) s h
 | .skip,h=>N (a.put o.dst undef) s h
 | .defer d,h=>N ({a with defers:=d::a.defers}.put o.dst undef) s h
 | .enter f args,h=>bI P main S f args s h fun ai h' v=>N (a.put o.dst v) ai h'
 | .round l f tmps assign body,h=>kq P main S l f tmps assign body s h fun ai h' v=>N (a.put o.dst v) ai h'
 | _,_=>False
def lJ(b:bn)(o:Oper)(aS:Operand->Value)(s:ah)(h:ab)(K:ah->ab->Value->Prop):Prop:=
 ∀(Q:ah->ab->Goroutine->Prop) (a:Act) (ops:Array Oper) (i:Nat) (rest:List Nat) (k:List Item) (cs:List Frame),b.kind≠.early->a.eval=aS->ops[i]? =some o->Region.wanted o (yielded ops a.tmps)=true->
  (∀s h v,K s h v->dp P main S Q s h (G (b.at (a.put o.dst v) (.inRegion ops rest::k)) cs))->dp P main S Q s h (G (b.at a (.inRegion ops (i::rest)::k)) cs)
def HZ(b:bn)(o:Oper)(a:Act)(s:ah)(h:ab)(N:Act->ah->ab->Prop):Prop:=
 (lE b o=false/\bf P (execOp a.eval o) h (upon P main S o a s N))\/lJ P main S b o a.eval s h (fun s h v=>N (a.put o.dst v) s h)
def qw(b:bn)(ops:Array Oper):List Nat->Act->ah->ab->(Act->ah->ab->Prop)->Prop
 | [],a,s,h,N=>N a s h
 | i::rest,a,s,h,N=>match ops[i]? with
  | none=>qw b ops rest a s h N
  | some o=>if Region.wanted o (yielded ops a.tmps) then HZ P main S b o a s h fun a s h=>qw b ops rest a s h N else qw b ops rest (a.put o.dst undef) s h N
def jM(b:bn):Code->(eZ->Act->ah->ab->Prop)->Act->ah->ab->Prop
 | .skip,K=>K .cB
 | .label _,K=>K .cB
 | .seq x y,K=>jM b x fun e=>match e with|.cB=>jM b y K|.ext i=>K (.ext i)|.ret=>K .ret
 | .cond c x y,K=>fun a s h=>match a.eval c with|.bool true=>jM b x K a s h|.bool false=>jM b y K a s h|_=>False
 | .block id c,K=>jM b c fun e=>match e with|.cB=>K .cB|.ext i=>if i=id then K .cB else K (.ext i)|.ret=>K .ret
 | .loop c,K=>fun a s h=>∀X:Act->ah->ab->Prop,(∀a s h,jM b c (fun e=>match e with|.cB=>X|.ext i=>K (.ext i)|.ret=>K .ret) a s h->X a s h)->X a s h
 | .exit id,K=>K (.ext id)
 | .ret,K=>K .ret
 | .scope c,K=>jM b c K
 | .region _ ops draw,K=>fun a s h=>if draw then ∀t,qw P main S b ops (Region.schedule (P.follows .mixedOrders) ops t) a s h (K .cB) else qw P main S b ops (List.range ops.size) a s h (K .cB)
 | .rangeFunc f bF gN body,K=>fun a s h=>∀Q k cs,(∀e a s h,K e a s h->Af P main S Q b k cs e a s h)->dp P main S Q s h (G (b.at a (.code (.rangeFunc f bF gN body)::k)) cs)
 | _,_=>fun _ _ _=>False
end
section
variable{P:Program}{main:Bool}{ah:Type}{S:Sys ah}{b:bn}
theorem bI.mono{f:FuncId}{args:Array Value}{s:ah}{h:ab}{A B:ah->ab->Value->Prop}(DW:∀s h v,A s h v->B s h v)(c:bI P main S f args s h A):bI P main S f args s h B:=
 fun Q aY cs k=>c Q aY cs fun ai h' v q=>k ai h' v (DW _ _ _ q)
theorem kq.mono{l:Nat}{f:FuncId}{tmps:Array Value}{gN body:Code}{s:ah}{h:ab}{A B:ah->ab->Value->Prop}(DW:∀s h v,A s h v->B s h v)(c:kq P main S l f tmps gN body s h A):kq P main S l f tmps gN body s h B:=
 fun Q aY cs k=>c Q aY cs fun ai h' v q=>k ai h' v (DW _ _ _ q)
theorem aex{o:Oper}{a:Act}{s:ah}{N M:Act->ah->ab->Prop}(cY:∀a s h,N a s h->M a s h){ar:Next}{h:ab}(u:upon P main S o a s N ar h):upon P main S o a s M ar h:=by
 cases ar<;>first
  | exact cY _ _ _ u
  | exact bI.mono (fun _ _ _=>cY _ _ _) u
  | exact kq.mono (fun _ _ _=>cY _ _ _) u
  | exact u
theorem lJ.mono{o:Oper}{aS:Operand->Value}{s:ah}{h:ab}{A B:ah->ab->Value->Prop}(DW:∀s h v,A s h v->B s h v)(c:lJ P main S b o aS s h A):lJ P main S b o aS s h B:=
 fun Q a ops i rest k cs h1 h2 h3 h4 h5=>c Q a ops i rest k cs h1 h2 h3 h4 fun s h v q=>h5 s h v (DW _ _ _ q)
theorem Un{o:Oper}{a:Act}{s:ah}{h:ab}{N M:Act->ah->ab->Prop}(cY:∀a s h,N a s h->M a s h)(u:HZ P main S b o a s h N):HZ P main S b o a s h M:=
 u.imp (fun u=>⟨u.1,oF P _ (fun _ _=>aex cY) u.2⟩) (lJ.mono fun _ _ _=>cY _ _ _)
theorem Uo{ops:Array Oper}:∀{l:List Nat} {a:Act} {s:ah} {h:ab} {N M:Act->ah->ab->Prop},(∀a s h,N a s h->M a s h)->qw P main S b ops l a s h N->qw P main S b ops l a s h M:=by
 intro l
 induction l with
 | nil=>exact fun cY u=>cY _ _ _ u
 | cons i l aN=>
  intro a s h N M cY u;rw [qw] at u ⊢;cases aQ:ops[i]? with
  | none=>rw [aQ] at u;exact aN cY u
  | some o=>
   rw [aQ] at u;simp only at u ⊢;split
   ·rename_i hw;rw [if_pos hw] at u;exact Un (fun _ _ _=>aN cY) u
   ·rename_i hw;rw [if_neg hw] at u;exact aN cY u
theorem Af.weaken{Q:ah->ab->Goroutine->Prop}{k:List Item}{cs:List Frame}{K L:eZ->Act->ah->ab->Prop}(cX:∀e a s h,K e a s h->L e a s h)
  (c:∀e a s h,L e a s h->Af P main S Q b k cs e a s h):∀e a s h,K e a s h->Af P main S Q b k cs e a s h:=fun e a s h q=>c e a s h (cX _ _ _ _ q)
theorem wR{c:Code}:∀{K L:eZ->Act->ah->ab->Prop} {a:Act} {s:ah} {h:ab},(∀e a s h,K e a s h->L e a s h)->jM P main S b c K a s h->jM P main S b c L a s h:=by
 induction c with
 | skip=>exact fun cX u=>cX _ _ _ _ u
 | label l=>exact fun cX u=>cX _ _ _ _ u
 | seq x y og oh=>
  intro K L a s h cX u;exact og (fun e a s h q=>by cases e with|cB=>exact oh cX q|ext i=>exact cX _ _ _ _ q|ret=>exact cX _ _ _ _ q) u
 | cond c x y og oh=>
  intro K L a s h cX u;rw [jM] at u ⊢;split at u
  ·rename_i he;rw [he];exact og cX u
  ·rename_i he;rw [he];exact oh cX u
  ·exact u.elim
 | block id c aN=>
  intro K L a s h cX u;refine aN (fun e a s h q=> ?_) u;cases e with
  | cB=>exact cX _ _ _ _ q
  | ext i=>
   simp only at q ⊢;split
   ·rename_i hi;rw [if_pos hi] at q;exact cX _ _ _ _ q
   ·rename_i hi;rw [if_neg hi] at q;exact cX _ _ _ _ q
  | ret=>exact cX _ _ _ _ q
 | loop c aN=>
  intro K L a s h cX u X qP;exact u X fun a s h q=>qP a s h (aN (fun e a s h q=>by cases e with|cB=>exact q|ext i=>exact cX _ _ _ _ q|ret=>exact cX _ _ _ _ q) q)
 | exit id=>exact fun cX u=>cX _ _ _ _ u
 | ret=>exact fun cX u=>cX _ _ _ _ u
 | scope c aN=>exact fun cX u=>aN cX u
 | region id ops draw=>
  intro K L a s h cX u;rw [jM] at u ⊢;split
  ·rename_i hd;rw [if_pos hd] at u;exact fun t=>Uo (cX _) (u t)
  ·rename_i hd;rw [if_neg hd] at u;exact Uo (cX _) u
 | rangeFunc f bF gN body _ _=>
  intro K L a s h cX u Q k cs hc;exact u Q k cs (Af.weaken cX hc)
 | goto l=>exact fun _ u=>u
 | refuse w=>exact fun _ u=>u
theorem Tu(hk:b.kind≠.early){ops:Array Oper}{Q:ah->ab->Goroutine->Prop}{k:List Item}{cs:List Frame}:∀{l:List Nat} {a:Act} {s:ah} {h:ab} {N:Act->ah->ab->Prop},
  qw P main S b ops l a s h N->(∀a s h,N a s h->dp P main S Q s h (G (b.at a k) cs))->dp P main S Q s h (G (b.at a (.inRegion ops l::k)) cs):=by
 intro l
 induction l with
 | nil=>exact fun u c=>.ik rfl (fun w=>acZ) (c _ _ _ u)
 | cons i l aN=>
  intro a s h N u c;rw [qw] at u;cases aQ:ops[i]? with
  | none=>rw [aQ] at u;exact .ik rfl (fun w=>ajW aQ) (aN u c)
  | some o=>
   rw [aQ] at u;simp only at u;cases hw:Region.wanted o (yielded ops a.tmps) with
   | false=>rw [hw] at u;exact .ik rfl (fun w=>adq aQ hw) (aN u c)
   | true=>
    rw [hw,if_pos rfl] at u;rcases u with ⟨hd,u⟩|u
    case inr=>exact u Q a ops i l k cs hk rfl aQ hw fun s h v q=>aN q c
    refine .step ⟨rfl,fun w dF=> ?_⟩;obtain ⟨ar,w',h',es,e1,e2,e3,e4,e5⟩:=JU P _ h _ w #[] dF u;rw [Array.empty_append] at e1;have fin:∀g',PR b a o ops i l k cs P ar=some g'->dp P main S Q s h' g'->∃g' w' es h',stepG P main (G (b.at a (.inRegion ops (i::l)::k)) cs) w=.go g' w' es/\h'.In w'/\Fr h w h' w'/\(∀e∈es,qn h' e)/\dp P main S Q s h' g':=
     fun g' aG r=>⟨g',w',seen P b.fn es,h',tq aQ hw hd hk e1 aG,e3,e4,fun e he=>e5 e (mem_seen he),r⟩
    have n5:∀v,(b.at a (.inRegion ops (i::l)::k)).finish v=b.at (a.put o.dst v) (.inRegion ops l::k):=fun v=>by rw [bn.finish_at,aQ];rfl
    cases ar with
    | value v=>exact fin _ rfl (aN e2 c)
    | skip=>exact fin _ rfl (aN e2 c)
    | defer d=>exact fin _ rfl (aN e2 c)
    | enter f args=>exact fin _ rfl (e2 Q _ cs fun ai h' v q=>by rw [n5];exact aN q c)
    | round l f tmps gN body=>exact fin _ rfl (e2 Q _ cs fun ai h' v q=>by rw [n5];exact aN q c)
    | _=>exact e2.elim
theorem yZ(hk:b.kind≠.early){c:Code}:∀{K:eZ->Act->ah->ab->Prop} {a:Act} {s:ah} {h:ab},jM P main S b c K a s h->
  ∀(Q:ah->ab->Goroutine->Prop) (k:List Item) (cs:List Frame),(∀e a s h,K e a s h->Af P main S Q b k cs e a s h)->dp P main S Q s h (G (b.at a (.code c::k)) cs):=by
 induction c with
 | skip=>exact fun u Q k cs hc=>.ik rfl (fun w=>ajT) (hc .cB _ _ _ u)
 | label l=>exact fun u Q k cs hc=>.ik rfl (fun w=>ag1) (hc .cB _ _ _ u)
 | seq x y og oh=>
  intro K a s h u Q k cs hc;refine .ik rfl (fun w=>amY) (og u Q (.code y::k) cs fun e a s h q=> ?_);cases e with
  | cB=>exact oh q Q k cs hc
  | ext i=>exact fun k₂ si=>hc (.ext i) a s h q k₂ (by rw [si];rfl)
  | ret=>exact fun k₂=>hc .ret a s h q k₂
 | cond c x y og oh=>
  intro K a s h u Q k cs hc;rw [jM] at u;split at u
  ·rename_i he;exact .ik rfl (fun w=>Vy he) (og u Q k cs hc)
  ·rename_i he;exact .ik rfl (fun w=>Vy he) (oh u Q k cs hc)
  ·exact u.elim
 | block id c aN=>
  intro K a s h u Q k cs hc;refine .ik rfl (fun w=>ag2) (aN u Q (.inBlock id::k) cs fun e a s h q=> ?_);cases e with
  | cB=>exact .ik rfl (fun w=>adN) (hc .cB _ _ _ q)
  | ext i=>
   intro k₂ si;simp only at q;by_cases hi:i=id
   ·rw [if_pos hi] at q;have:exitTo i k₂=some k:=by rw [si];simp [exitTo,hi]
    exact .ik rfl (fun w=>ajV this) (hc .cB _ _ _ q)
   ·rw [if_neg hi] at q;exact hc (.ext i) _ _ _ q k₂ (by rw [si];simp [exitTo,Ne.symm hi])
  | ret=>exact fun k₂=>hc .ret a s h q k₂
 | loop c aN=>
  intro K a s h u Q k cs hc;refine (u (fun a s h=>dp P main S Q s h (G (b.at a (.inLoop c::k)) cs)/\dp P main S Q s h (G (b.at a (.code (.loop c)::k)) cs)) fun a s h q=> ?_).2;have r:dp P main S Q s h (G (b.at a (.code c::.inLoop c::k)) cs):=by
   refine aN q Q (.inLoop c::k) cs fun e a s h q=> ?_;cases e with
   | cB=>exact q.1
   | ext i=>exact fun k₂ si=>hc (.ext i) a s h q k₂ (by rw [si];rfl)
   | ret=>exact fun k₂=>hc .ret a s h q k₂
  exact ⟨.ik rfl (fun w=>aev) r,.ik rfl (fun w=>ajU) r⟩
 | exit id=>exact fun u Q k cs hc=>hc (.ext id) _ _ _ u k rfl
 | ret=>exact fun u Q k cs hc=>hc .ret _ _ _ u k
 | scope c aN=>
  intro K a s h u Q k cs hc;refine .ik rfl (fun w=>ag3) (aN u Q (.inScope c::k) cs fun e a s h q=> ?_);cases e with
  | cB=>exact .ik rfl (fun w=>adO) (hc .cB _ _ _ q)
  | ext i=>exact fun k₂ si=>hc (.ext i) a s h q k₂ (by rw [si];rfl)
  | ret=>exact fun k₂=>hc .ret a s h q k₂
 | region id ops draw=>
  intro K a s h u Q k cs hc;rw [jM] at u;cases draw with
  | false=>exact .ik rfl (fun w=>aew) (Tu hk u fun a s h q=>hc .cB _ _ _ q)
  | true=>
   rw [if_pos rfl] at u;refine .step ⟨rfl,fun w dF=> ?_⟩;obtain ⟨t,aj⟩:=acR (P:=P) (main:=main) (b:=b) (a:=a) (k:=k) (cs:=cs) (w:=w) (id:=id) (ops:=ops);refine ⟨_,_,#[],h,aj,dF,⟨rfl,rfl,rfl,Nat.le_refl _,fun _ _ _=>rfl,fun _ _ e _=>e,fun _ x e=>⟨x,e,rfl⟩,fun b x' e n=>by rw [n] at e;cases e⟩,by simp,Tu hk (u t) fun a s h q=>hc .cB _ _ _ q⟩
 | rangeFunc f bF gN body _ _=>exact fun u Q k cs hc=>u Q k cs hc
 | goto l=>exact fun u=>u.elim
 | refuse w=>exact fun u=>u.elim
end
section
open Go.ConcN (sumTo sumTo_upd sumTo_congr)
inductive lv(α:Type):Type where
 | leaf
 | mk (f:α->lv α)
def lv.Sub{α:Type}(a b:lv α):Prop:=∃f k,b=.mk f/\a=f k
theorem lv.wf{α:Type}:WellFounded (lv.Sub (α:=α)):=⟨fun a=>by
 induction a with
 | leaf=>exact ⟨_,fun b h=>by obtain ⟨f,k,e,_⟩:=h;cases e⟩
 | mk f aN=>exact ⟨_,fun b h=>by obtain ⟨pR,k,e,rfl⟩:=h;cases e;exact aN k⟩⟩
abbrev oN(α:Type):=lv α ⊕ Nat
inductive s4{α:Type}:oN α->oN α->Prop where
 | nP {a b:lv α}:lv.Sub a b->s4 (.inl a) (.inl b)
 | DX {q:Nat} {b:lv α}:s4 (.inr q) (.inl b)
 | aR {q r:Nat}:q<r->s4 (.inr q) (.inr r)
theorem s4.wf{α:Type}:WellFounded (s4 (α:=α)):=by
 have ao:∀q:Nat,Acc (s4 (α:=α)) (.inr q):=fun q=>by
  induction q using Nat.strongRecOn with
  | _ q aN=>exact ⟨_,fun b h=>by cases h with|aR bY=>exact aN _ bY⟩
 refine ⟨fun a=> ?_⟩;cases a with
 | inr q=>exact ao q
 | inl a=>
  induction a using lv.wf.induction with
  | _ a aN=>exact ⟨_,fun b h=>by
    cases h with
    | nP hs=>exact aN _ hs
    | DX=>exact ao _⟩
inductive qx{β:Type}(r:β->β->Prop):List β->List β->Prop where
 | head {a b:β} {l:List β}:r a b->qx r (a::l) (b::l)
 | tail {a:β} {l m:List β}:qx r l m->qx r (a::l) (a::m)
theorem qx.wf{β:Type}{r:β->β->Prop}(wf:WellFounded r):WellFounded (qx r):=⟨fun l=>by
 induction l with
 | nil=>exact ⟨_,fun b h=>by cases h⟩
 | cons a l aN=>
  induction a using wf.induction generalizing l with
  | _ a AA=>
   induction aN with
   | intro l af auQ=>
    refine ⟨_,fun b h=> ?_⟩;cases h with
    | head al=>exact AA _ al l ⟨_,af⟩
    | tail al=>exact auQ _ al⟩
theorem qx.set{β:Type}{r:β->β->Prop}{x y:β}:∀{l:List β} {i:Nat},l[i]? =some y->r x y->qx r (l.set i x) l
 | [],_,h,_=>by simp at h
 | a::l,0,h,al=>by simp at h;subst h;exact .head al
 | a::l,i+1,h,al=>by simpa using qx.tail (qx.set (by simpa using h) al)
section
variable(P:Program)(main:Bool){ah:Type}(S:Sys ah)(Q:ah->ab->Goroutine->Prop)
def RunT:lv (ah×ab×Goroutine)->ah->ab->Goroutine->Prop
 | .leaf,s,h,g=>Q s h g
 | .mk f,s,h,g=>Q s h g\/Ae P main h g (fun h' g'=>∃c,RunT (f c) s h' g')\/S.nO s h g (fun ai h' g'=>∃c,RunT (f c) ai h' g')
end
open Classical in
theorem dp.tree{P:Program}{main:Bool}{ah:Type}{S:Sys ah}{Q:ah->ab->Goroutine->Prop}{s:ah}{h:ab}{g:Goroutine}(r:dp P main S Q s h g):∃hB,RunT P main S Q hB s h g:=by
 let f:ah×ab×Goroutine->lv (ah×ab×Goroutine):=fun c=>if aa:∃hB,RunT P main S Q hB c.1 c.2.1 c.2.2 then aa.choose else .leaf
 have aP:∀s h g,(∃hB,RunT P main S Q hB s h g)->∃c,RunT P main S Q (f c) s h g:=fun s h g aa=>⟨(s,h,g),by
  have e:f (s,h,g)=aa.choose:=dif_pos aa;rw [e];exact aa.choose_spec⟩
 refine r (fun s h g=>∃hB,RunT P main S Q hB s h g) (fun s h g q=>⟨.leaf,q⟩) (fun s h g l=>⟨.mk f,?_⟩) (fun s h g l=>⟨.mk f,?_⟩)
 ·exact .inr (.inl (l.mono fun h' g' aa=>aP _ _ _ aa))
 ·exact .inr (.inr (S.mono (fun ai h' g' aa=>aP _ _ _ aa) l))
def cC(hs:Nat->ab)(i:Nat)(h:ab):Nat->ab:=fun j=>if j=i then h else hs j
theorem kD(hs:Nat->ab)(i:Nat)(h:ab):cC hs i h i=h:=by simp [cC]
theorem gr(hs:Nat->ab){i j:Nat}(h:ab)(n:j≠i):cC hs i h j=hs j:=by simp [cC,n]
theorem p9(hs:Nat->ab)(i:Nat):cC hs i (hs i)=hs:=by funext j;simp only [cC];split<;>simp_all
abbrev opsOf(i:Nat)(g:Goroutine)(es:Array Event):Trace:=MemOp.ofEvents i g.frame.fn g.frame.place es
structure jh(P:Program) where
 kA:Type
 R:Nat->kA->kA->Prop
 dh:kA->Nat->(Nat->ab)->World->Trace->Prop
 waits:kA->Nat->Prop
 gone:kA->Nat->Prop
 Post:Value->World->Prop
 refl:∀i γ,R i γ γ
 trans:∀{i a b c},R i a b->R i b c->R i a c
 at_:∀{γ n hs w t} (d:Nat),dh γ n hs w t->dh γ n hs (w.at d) t
 eb:∀{γ n hs w t i},dh γ n hs w t->i<n->¬gone γ i->(hs i).In w
 loc:∀{γ n hs w t i h' w' es} (fn:FuncId) (pos:String),dh γ n hs w t->i<n->¬gone γ i->Fr (hs i) w h' w'->h'.In w'->(∀e∈es,qn h' e)->dh γ n (cC hs i h') w' (t++MemOp.ofEvents i fn pos es)
 mute:∀{γ n hs w t i es} (fn:FuncId) (pos:String),dh γ n hs w t->0<i->i<n->gone γ i->(∀e∈es,Event.mute e=true)->dh γ n hs w (t++MemOp.ofEvents i fn pos es)
 live:∀{γ n hs w t},dh γ n hs w t->∃i,i<n/\¬gone γ i/\¬waits γ i
 main:∀{γ n hs w t},dh γ n hs w t->0<n/\¬gone γ 0
section
variable{P:Program}(L:jh P)
def jh.ru(i:Nat)(γ γ':L.kA):Prop:=∀j,j≠i->L.R j γ γ'/\(L.gone γ' j↔L.gone γ j)
def jh.rO(g:Goroutine)(γ γ':L.kA):Prop:=∀j,L.waits γ j->¬L.waits γ' j->mayWake P g=true
def jh.hM(i:Nat):Sys L.kA where
 nO s h g X:=g.status=.running/\g.offers=none/\∀γ n hs w t,L.R i s γ->L.dh γ n hs w t->i<n->¬L.gone γ i->hs i=h->
  (L.waits γ i/\stepG P false g w=.go {g with status:=.blocked} w #[])\/
  (∃γ' g' w' es h',stepG P false g w=.go g' w' es/\L.dh γ' n (cC hs i h') w' (t++opsOf i g es)/\L.ru i γ γ'/\L.rO g γ γ'/\
   ((L.gone γ' i/\∃q,QuitsD P q (Deaf (t++opsOf i g es) i) g')\/(¬L.gone γ' i/\g'.status=.running/\X γ' h' g')))
 mono A6 l:=⟨l.1,l.2.1,fun γ n hs w t r uP ao aG e=>(l.2.2 γ n hs w t r uP ao aG e).imp id fun ⟨γ',g',w',es,h',a1,a2,a3,a4,a5⟩=>
  ⟨γ',g',w',es,h',a1,a2,a3,a4,a5.imp id fun ⟨cl,bV,dz⟩=>⟨cl,bV,A6 _ _ _ dz⟩⟩⟩
def jh.jC:Sys L.kA where
 nO s h g X:=g.status=.running/\g.offers=none/\∀γ n hs w t,L.R 0 s γ->L.dh γ n hs w t->hs 0=h->
  (L.waits γ 0/\stepG P true g w=.go {g with status:=.blocked} w #[])\/
  (∃γ' g' w' es h',stepG P true g w=.go g' w' es/\L.dh γ' n (cC hs 0 h') w' (t++opsOf 0 g es)/\L.ru 0 γ γ'/\L.rO g γ γ'/\g'.status=.running/\X γ' h' g')\/
  (∃γ' g' child w' es h' hc,stepG P true g w=.spawn g' child w' es/\
   L.dh γ' (n+1) (cC (cC hs 0 h') n hc) w' ((t++opsOf 0 g es).push {g:=0,fn:=g.frame.fn,pos:=g.frame.place,act:=.go n} |>.push {g:=n,fn:=child.frame.fn,pos:=g.frame.place,act:=.start})/\
   (∀j,j≠0->j≠n->(L.R j γ γ'/\(L.gone γ' j↔L.gone γ j)))/\(∀j,L.waits γ j->L.waits γ' j)/\¬L.gone γ' n/\dp P false (L.hM n) (fun _ _ _=>False) γ' hc child/\g'.status=.running/\X γ' h' g')
 mono A6 l:=⟨l.1,l.2.1,fun γ n hs w t r uP e=>(l.2.2 γ n hs w t r uP e).imp id (.imp (fun ⟨γ',g',w',es,h',a1,a2,a3,a4,a5,eK⟩=>⟨γ',g',w',es,h',a1,a2,a3,a4,a5,A6 _ _ _ eK⟩)
  fun ⟨γ',g',c,w',es,h',hc,a1,a2,a3,a4,a5,eK,eV,fJ⟩=>⟨γ',g',c,w',es,h',hc,a1,a2,a3,a4,a5,eK,eV,A6 _ _ _ fJ⟩)⟩
def jh.RI(s:L.kA)(h:ab)(g:Goroutine):Prop:=
 g.status=.running/\∀γ n hs w t,L.R 0 s γ->L.dh γ n hs w t->hs 0=h->(∀j,0<j->j<n->L.gone γ j)/\
  ∃v es,stepG P true g w=.ended (.done v) w es/\L.Post v w/\(∀said,¬Race said (t++opsOf 0 g es))/\(t++opsOf 0 g es).HandedOver
abbrev jh.α:=L.kA×ab×Goroutine
def jh.Ag:Nat->lv L.α->L.kA->ab->Goroutine->Prop
 | 0=>RunT P true L.jC L.RI
 | i+1=>RunT P false (L.hM (i+1)) (fun _ _ _=>False)
theorem jh.Ag.running{i:Nat}{hB:lv L.α}{s:L.kA}{h:ab}{g:Goroutine}(r:L.Ag i hB s h g):g.status=.running:=by
 cases i with
 | zero=>
  cases hB with
  | leaf=>exact r.1
  | mk f=>rcases r with r|r|r<;>exact r.1
 | succ i=>
  cases hB with
  | leaf=>exact r.elim
  | mk f=>rcases r with r|r|r;exact r.elim;exact r.1;exact r.1
def jh.qQ(i:Nat)(m:oN L.α)(g:Goroutine)(γ:L.kA)(h:ab)(t:Trace):Prop:=
 (¬L.gone γ i/\∃s hB g0,m=.inl hB/\L.R i s γ/\L.Ag i hB s h g0/\(g=g0\/(g0.offers=none/\g= {g0 with status:=.blocked}/\L.waits γ i)))\/
 (L.gone γ i/\0<i/\∃q,m=.inr q/\QuitsD P q (Deaf t i) g)
def oO(gs:Array Goroutine):Nat->Nat:=fun i=>match gs[i]? with
 | some g=>if g.status=.running then 1 else 0
 | none=>0
abbrev jh.o3:=lv L.α×List (oN L.α)×Nat
def jh.lt:L.o3->L.o3->Prop:=Prod.Lex lv.Sub (Prod.Lex (qx s4) (· < ·))
theorem jh.apC:WellFounded L.lt:=(Prod.lex ⟨_,lv.wf⟩ (Prod.lex ⟨_,qx.wf s4.wf⟩ Nat.lt_wfRel)).wf
def jh.Inv(o3:L.o3)(m:Machine)(t:Trace):Prop:=
 ∃(gs:Array Goroutine) (w:World) (sl:Option (Nat×Nat)) (γ:L.kA) (hs:Nat->ab) (ms:List (oN L.α)) (mZ:lv L.α),m=crowd gs w sl/\gs.size=ms.length+1/\L.dh γ gs.size hs w t/\
  (∀i g x,gs[i]? =some g->(Sum.inl mZ::ms)[i]? =some x->L.qQ i x g γ (hs i) t)/\o3=(mZ,ms,sumTo gs.size (oO gs))
end
end
end
end Go.Nk
