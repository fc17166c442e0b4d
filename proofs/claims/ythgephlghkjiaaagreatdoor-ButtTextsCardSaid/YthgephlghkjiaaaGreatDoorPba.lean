/- Part Pba of the proof of ButtTexts: lemmas. -/
import Derived.Test.YthgephlghkjiaaaGreatDoorPaz
set_option maxRecDepth 100000
set_option maxHeartbeats 4000000
set_option linter.all false
namespace Go.Nk
noncomputable section
open Go Go.Conc Go.Proofs
open Bool renaming true->J,false->q9,false_eq_true->N2,false_ne_true->W3
open Go renaming Value->o5,Addr->vm,Program->tb,TypeId->ta,Next->T7,invoke->atT,Deferred->tc,Operand->su,storeVar->axM
open Go.Proofs.Tryz renaming prog->pv,f41->aye,results41->aCK,results10->aCL
open List renaming mem_cons->B4,not_mem_nil->auo,getElem?_eq_some_iff->F1,mem_of_getElem?->aum,getElem?_eq_getElem->Q4,all_eq_true->G0
open Nat renaming lt_or_ge->vy
open Ne renaming symm->zz
open Option renaming none->o0,some->C,bind_eq_some_iff->auK
section
variable{main:Bool}{ai:Type}{S:Sys ai}{s:ai}{h:ae}
def aqg:bz pv 41=J:=O
def WY{a:Int}[K:KK o5]:al pv (Instr.build 104 #[(0,.int .i64 a)]) h=K.f (.agg #[.int .i64 a]) h:=O
def WZ{a:Int}[K:KK o5]:al pv (Instr.makeInterface 104 (.agg #[.int .i64 a])) h=K.f (.iface 104 (.agg #[.int .i64 a])) h:=O
def re(n:Int):o5:=.iface 104 (.agg #[.int .i64 n])
def Gd:o5:=.agg #[.slice o0 0 0,.slice o0 0 0,.int .i64 0,.int .i64 0]
def Ge:o5:=.agg #[.slice o0 0 0,.slice o0 0 0]
def W0:∀{l:List UInt8},(fG l).length<=l.length
 | []=>by simp[fG]
 |x::l=>by
  have a:=W0 (l:=l);rw[fG];split
  .simp;exact a
  .split
   .simp
   .rename_i p bc b;rw[b]at a;simp at a ⊢;omega
structure W1(h0 h:ae)(l r c2 c3 c4 c5:Nat)(L:Loop)(n:Nat):Prop where
 g2:h c2=C ⟨.cells #[.slice o0 0 0,.slice o0 0 0,.int .i64 0,.int .i64 0] 25 (0,0),J⟩
 g3:h c3=C ⟨.cells #[.slice o0 0 0,.slice o0 0 0] 29 (0,0),J⟩
 g4:h c4=C ⟨.cells #[.bool q9] 4 (0,0),J⟩
 g5:h c5=C ⟨.cells #[re n] 91 (0,0),J⟩
 nO:h l=C ⟨.loop {L with state:=.done,pending:=C .ret},J⟩
 rT:h r=C ⟨.deferred (C []),J⟩
 le:h0.ar h
 ne:∀c∈[c2,c3,c4,c5],c≠l/\c≠r
 nl:h0 l=o0/\h0 r=o0
def gU.zero{h0 hb h:ae}{B X:List Nat}{c2 c3 c4 c5 c6 cG:Nat}{a:Acc}{at_:Int}{M:List Nat}{aW sv bT bV:o5}(q:gU h0 hb h B X c2 c3 c4 c5 c6 cG a at_ M aW sv bT bV){p2 p3 p4 p5:Array o5}{j k l g:ae}
  (e2:j=h.put c2 ⟨.cells p2 25 (0,0),J⟩) (e3:k=j.put c3 ⟨.cells p3 29 (0,0),J⟩) (e4:l=k.put c4 ⟨.cells p4 4 (0,0),J⟩) (e5:g=l.put c5 ⟨.cells p5 91 (0,0),J⟩):
  (j c6=h c6/\k c6=h c6/\l c6=h c6/\g c6=h c6)/\(j c3=h c3/\k c4=h c4/\l c5=h c5)/\(g c2=C ⟨.cells p2 25 (0,0),J⟩/\g c3=C ⟨.cells p3 29 (0,0),J⟩/\g c4=C ⟨.cells p4 4 (0,0),J⟩/\g c5=C ⟨.cells p5 91 (0,0),J⟩)/\h0.ar g/\∀d∈X,g d=hb d:=by
 have ne:∀{c d:Nat} {p A:Array o5} {t n:Nat},h c=C ⟨.cells p t (0,0),J⟩->h d=C ⟨.cells A n (0,0),J⟩->t≠n->c≠d:=λhc hd D e=>by subst e;rw[hc]at hd;cases hd;exact D rfl
 have o:=ne q.g2 q.g3 aty;have r:=ne q.g2 q.g4 aty;have s:=ne q.g2 q.g5 aty;have i:=ne q.g2 q.g6 aty;have u:=ne q.g3 q.g4 aty;have v:=ne q.g3 q.g5 aty;have m:=ne q.g3 q.g6 aty;have x:=ne q.g4 q.g5 aty;have y:=ne q.g4 q.g6 aty;have E:=ne q.g5 q.g6 aty;subst e2;subst e3;subst e4;subst e5;have z:∀d,d≠c2->d≠c3->d≠c4->d≠c5->(((h.put c2 ⟨.cells p2 25 (0,0),J⟩).put c3 ⟨.cells p3 29 (0,0),J⟩).put c4 ⟨.cells p4 4 (0,0),J⟩).put c5 ⟨.cells p5 91 (0,0),J⟩ d=h d:=λd a b c e=>by rw[bx e,bx c,bx b,bx a]
 refine⟨⟨?_,?_,?_,?_⟩,⟨?_,?_,?_⟩,⟨?_,?_,?_,?_⟩,λd w hd=> ?_,λd hd=> ?_⟩
 .rw[bx (zz i)]
 .rw[bx (zz m),bx (zz i)]
 .rw[bx (zz y),bx (zz m),bx (zz i)]
 .rw[bx (zz E),bx (zz y),bx (zz m),bx (zz i)]
 .rw[bx (zz o)]
 .rw[bx (zz u),bx (zz r)]
 .rw[bx (zz x),bx (zz v),bx (zz s)]
 .rw[bx s,bx r,bx o,cI]
 .rw[bx v,bx u,cI]
 .rw[bx x,cI]
 .rw[cI]
 .have f:∀c∈[c2,c3,c4,c5,c6,cG],d≠c:=λc hc e=>by subst e;rw[q.aK _ (q.q.sub _ (q.st.2.1 _ hc).1)]at hd;cases hd
  rw[z d (f _ Y) (f _ Y) (f _ Y) (f _ Y)];exact q.le _ _ hd
 .have f:∀c∈[c2,c3,c4,c5,c6,cG],d≠c:=λc hc e=>(q.st.2.1 c hc).2 (e▸hd);rw[z d (f _ Y) (f _ Y) (f _ Y) (f _ Y)];exact q.cP d hd
def Ny(txt:List UInt8)(h h':ae)(z:o5):Prop:=(∃n,mP txt=.inl n/\z=.tuple #[Gd,Ge,.bool q9,re n])\/
 ∃a dR e c,mP txt=.inr a/\(a.b.fits/\a.g.fits)/\z=.tuple #[dR,e,.bool a.jQ,.nilIface]/\c.ar h'/\(∀d,(h d).isSome=J->c d=o0)/\k7 c dR a.b/\kL c e a.g
def aqh{txt:List UInt8}(n0:txt.length<=80000)(h5:oH h)(n7:pf h):bo pv main S 41 #[au txt] s h λs' h' z=>s'=s/\h.ar h'/\Ny txt h h' z:=by
 refine bL (args:=[au txt]) Tryz.func41 (by delta aye;rfl) Tryz.ntmps41 Y O ?_;simp only[ah,seval];intro c2 h2 n8 e2 c3 h3 hD e3 c4 h4 hE e4 c5 h6 hG e5 c6 h7 hH e6 cG h8 fc F;have de:=bU n8 e2;have bb:=bU hD e3;have bl:=bU hE e4;have bm:=bU hG e5;have ds:=bU hH e6;have cp:=bU fc F;have N:=cp _ _ (bw e6);simp only[ah,seval,N];intro h9 m;have gi:cG≠c6:=λe=>by rw[e,bw e6]at fc;cases fc
 have a7:h9 cG=C ⟨.cells #[.int .i64 0] 3 (0,0),J⟩:=by rw[m,bx gi];exact bw F
 simp only[ah,seval,a7];intro h10 D;have n9:h7.ar h8:=cp;have G2:h10 c2=C ⟨.cells #[.slice o0 0 0,.slice o0 0 0,.int .i64 0,.int .i64 0] 25 (0,0),J⟩:=by have a:=cp _ _ (ds _ _ (bm _ _ (bl _ _ (bb _ _ (bw e2)))));rw[D];refine fX ?_ a7 aty;rw[m];exact fX a N aty
 have G3:h10 c3=C ⟨.cells #[.slice o0 0 0,.slice o0 0 0] 29 (0,0),J⟩:=by have a:=cp _ _ (ds _ _ (bm _ _ (bl _ _ (bw e3))));rw[D];refine fX ?_ a7 aty;rw[m];exact fX a N aty
 have G4:h10 c4=C ⟨.cells #[.bool q9] 4 (0,0),J⟩:=by have a:=cp _ _ (ds _ _ (bm _ _ (bw e4)));rw[D];refine fX ?_ a7 aty;rw[m];exact fX a N aty
 have G5:h10 c5=C ⟨.cells #[.nilIface] 91 (0,0),J⟩:=by have a:=cp _ _ (ds _ _ (bw e5));rw[D];refine fX ?_ a7 aty;rw[m];exact fX a N aty
 have G6:h10 c6=C ⟨.cells #[.int .i64 0] 3 (0,0),J⟩:=by rw[D,bx (zz gi),m,cI]
 have G7:h10 cG=C ⟨.cells #[.int .i64 0] 3 (0,0),J⟩:=by rw[D,cI]
 have lj:h.ar h8:=de.ay (bb.ay (bl.ay (bm.ay (ds.ay cp))));have F3:h c3=o0:=fh de hD;have F4:h c4=o0:=fh (de.ay bb) hE;have F5:h c5=o0:=fh (de.ay (bb.ay bl)) hG;have F6:h c6=o0:=fh (de.ay (bb.ay (bl.ay bm))) hH;have F7:h cG=o0:=fh (de.ay (bb.ay (bl.ay (bm.ay ds)))) fc;have ez:h.ar h10:=dM (dM lj F6 m) F7 D;clear e2 e3 e4 e5 e6 F m D N a7 de bb bl bm ds cp n9 lj hD hE hG hH fc;refine cd apK apL λoa e1 z ⟨q1,c1,gj,hM,q3⟩=> ?_;subst q1;subst q3;have eA:=bU gj hM;have G1:=bw hM;clear hM;simp only[ah,seval];refine aqd (x:=#[]) (y:=#[aV c1 0]) apJ rfl Y (by simp[ak,aA]) ?_;refine JM λr hr l gv hl=> ?_;generalize eL:({state:=.ready,pending:=o0,fn:=41,tmps:=_,params:=#[19],assign:=_,body:=_,defers:=r}:Loop)=L;generalize ee:(upd _ 18 _:Env)=e' at eL ⊢;have L1:L.state=.ready:=by rw[<- eL]
 have L2:L.pending=o0:=by rw[<- eL]
 have L3:L.fn=41:=by rw[<- eL]
 have L4:L.params=#[19]:=by rw[<- eL]
 have L5:=(congrArg Loop.assign eL).symm;have L6:=(congrArg Loop.body eL).symm;dsimp only at L5 L6;have L7:iR 99 ⟨L.tmps,[]⟩ (kZ 99 e'):=by rw[<- eL];exact TA
 have u2:kZ 99 e' 2=aV c2 0:=by rw[<- ee];simp[kZ,ak]
 have u3:kZ 99 e' 3=aV c3 0:=by rw[<- ee];simp[kZ,ak]
 have u4:kZ 99 e' 4=aV c4 0:=by rw[<- ee];simp[kZ,ak]
 have u5:kZ 99 e' 5=aV c5 0:=by rw[<- ee];simp[kZ,ak]
 have u6:kZ 99 e' 6=aV c6 0:=by rw[<- ee];simp[kZ,ak]
 have u7:kZ 99 e' 7=aV cG 0:=by rw[<- ee];simp[kZ,ak]
 have v2:e' 2=aV c2 0:=by rw[<- ee];simp[ak]
 have v3:e' 3=aV c3 0:=by rw[<- ee];simp[ak]
 have v4:e' 4=aV c4 0:=by rw[<- ee];simp[ak]
 have v5:e' 5=aV c5 0:=by rw[<- ee];simp[ak]
 clear eL ee;generalize kZ 99 e'=en at L7 u2 u3 u4 u5 u6 u7;have lL:(e1.put r ⟨.deferred (C []),J⟩) l=o0:=by rw[bx gv];exact hl
 have gI:e1.ar ((e1.put r ⟨.deferred (C []),J⟩).put l ⟨.loop L,J⟩):=(gW hr).ay (gW lL);generalize eh:(e1.put r ⟨.deferred (C []),J⟩).put l ⟨.loop L,J⟩=b6 at gI ⊢;have nz:b6 l=C ⟨.loop L,J⟩:=by rw[<- eh,cI]
 have nD:b6 r=C ⟨.deferred (C []),J⟩:=by rw[<- eh,bx (zz gv),cI]
 clear eh;have LA:=eA.ay gI;have K2:=LA _ _ G2;have K3:=LA _ _ G3;have K4:=LA _ _ G4;have K5:=LA _ _ G5;have K6:=LA _ _ G6;have K7:=LA _ _ G7;have K1:=gI _ _ G1;have kN:∀{c x},e1 c=C x->c≠l:=λ{c x} o e=>by rw[e,hl]at o;cases o
 have nr:∀{c x},e1 c=C x->c≠r:=λ{c x} o e=>by rw[e,hr]at o;cases o
 have bK:∀{c x},h10 c=C x->c≠c1:=λ{c x} o e=>by rw[e,gj]at o;cases o
 let B:=[c2,c3,c4,c5,c6,cG,c1,l,r];let X:=[c1,l,r];have lS:c6≠cG/\(∀d∈[c2,c3,c4,c5,c6,cG],d∈B/\d∉X)/\∀d∈X,d∈B:=by
  refine⟨zz gi,λd hd=> ?_,λd hd=> ?_⟩
  .have o:∃x,h10 d=C x:=by
    simp only[B4,auo,or_false]at hd;rcases hd with rfl|rfl|rfl|rfl|rfl|rfl
    .exact⟨_,G2⟩
    .exact⟨_,G3⟩
    .exact⟨_,G4⟩
    .exact⟨_,G5⟩
    .exact⟨_,G6⟩
    .exact⟨_,G7⟩
   obtain⟨x,o⟩:=o;refine⟨?_,λq=> ?_⟩
   .simp only[B,B4,auo,or_false]at hd ⊢;rcases hd with q|q|q|q|q|q<;>simp[q]
   .simp only[X,B4,auo,or_false]at q;rcases q with q|q|q
    .exact bK o q
    .exact kN (eA _ _ o) q
    .exact nr (eA _ _ o) q
  .simp only[B,X,B4,auo,or_false]at hd ⊢;rcases hd with q|q|q<;>simp[q]
 have lT:∀d∈B,∃z,b6 d=C z:=by
  intro d hd;simp only[B,B4,auo,or_false]at hd;rcases hd with rfl|rfl|rfl|rfl|rfl|rfl|rfl|rfl|rfl
  .exact⟨_,K2⟩
  .exact⟨_,K3⟩
  .exact⟨_,K4⟩
  .exact⟨_,K5⟩
  .exact⟨_,K6⟩
  .exact⟨_,K7⟩
  .exact⟨_,K1⟩
  .exact⟨_,nz⟩
  .exact⟨_,nD⟩
 have ha:∀d∈B,h d=o0:=by
  intro d hd;simp only[B,B4,auo,or_false]at hd;rcases hd with rfl|rfl|rfl|rfl|rfl|rfl|rfl|rfl|rfl
  .assumption
  .exact F3
  .exact F4
  .exact F5
  .exact F6
  .exact F7
  .exact fh ez gj
  .exact fh (ez.ay eA) hl
  .exact fh (ez.ay eA) hr
 have R0:gU h b6 b6 B X c2 c3 c4 c5 c6 cG uY 0 B (.slice o0 0 0) (.slice o0 0 0) (.slice o0 0 0) (.slice o0 0 0):=⟨fr.start lT,⟨⟨_,_,_,rfl⟩,⟨_,_,_,rfl⟩,⟨_,_,_,rfl⟩,_,_,_,rfl⟩,K2,K3,K4,K5,K6,K7,ha,ez.ay LA,λ_ _=>rfl,lS⟩
 have qw:=h5.le (ez.ay LA);have hf:h l=o0/\h r=o0:=⟨ha l (by simp[B]),ha r (by simp[B])⟩;have mX:c1∈X/\l∈X/\r∈X:=by simp[X]
 have eE:l≠r:=gv;have ih:l≠c1:=λe=>kN G1 e.symm;have oo:r≠c1:=λe=>nr G1 e.symm
 clear_value B X
 clear lT ha lS K2 K3 K4 K5 K6 K7 kN nr bK hl hr lL G2 G3 G4 G5 G6 G7 F3 F4 F5 F6 F7 gj gi ez eA gI LA G1 gv;let Zz:Nat->ae->Prop:=λk o=>k<=(fG txt).length/\o l=C ⟨.loop L,J⟩/\o r=C ⟨.deferred (C []),J⟩/\(∃x,o c1=C x)/\∃a M aW sv bT bV,mP txt=pZ a k ((oK txt).drop k)/\a.Fit k/\gU h o o B X c2 c3 c4 c5 c6 cG a k M aW sv bT bV;let W:ae->Prop:=λo=>∃n,mP txt=.inl n/\W1 h o l r c2 c3 c4 c5 L n;have qC:=W0 (l:=txt);have ot:(oK txt).length=(fG txt).length:=by simp[oK]
 refine bo.mono (λs' h' v q=> ?_) (aqe (main:=main) (S:=S) (s:=oa) (h:=b6) (l:=l) (c1:=c1) (p:=19) (L:=L) (txt:=txt) (Zz:=Zz) (W:=W) L4 (λk o q=>q.2.1) (λk o x y ⟨z0,z1,z2,eZ,a,M,aW,sv,bT,bV,za,zf,nM⟩ g=>⟨z0,by rw[bx ih];exact z1,by rw[bx oo];exact z2,⟨_,cI⟩,a,M,aW,sv,bT,bV,za,zf,nM.ny mX.1 y⟩) (λk pc s o x hh hZ l2=> ?_) ⟨U,nz,nD,⟨_,K1⟩,uY,B,_,_,_,_,rfl,Acc.Fit.zero,R0⟩ K1 U)
 .obtain⟨q0,⟨q1,q2,q3,q4,a,M,aW,sv,bT,bV,za,zf,R⟩|⟨n,za,R⟩⟩:=q
  rotate_left
  .subst q0;rw[aqb R.nO rfl];refine .inr ⟨rfl,?_⟩;have dq:∀c∈[c2,c3,c4,c5],c≠l/\c≠r:=R.ne;have b5:(h'.put l ⟨.loop {({L with state:=.done,pending:=C .ret}:Loop)with state:=.exhausted},J⟩) r=C ⟨.deferred (C []),J⟩:=by rw[bx (zz eE)];exact R.rT
   have kk:∀c x,c∈[c2,c3,c4,c5]->h' c=C x->(h'.put l ⟨.loop {({L with state:=.done,pending:=C .ret}:Loop)with state:=.exhausted},J⟩) c=C x:=λc x hc o=>by rw[bx (dq c hc).1];exact o
   have E:=kk _ _ Y R.g2;have G:=kk _ _ Y R.g3;have ab:=kk _ _ Y R.g4;have b8:=kk _ _ Y R.g5;have l7:h.ar (h'.put l ⟨.loop {({L with state:=.done,pending:=C .ret}:Loop)with state:=.exhausted},J⟩):=λd z hd=>by rw[bx (λe=>by rw[e,R.nl.1]at hd;cases hd)];exact R.le _ _ hd
   generalize h'.put l ⟨.loop {({L with state:=.done,pending:=C .ret}:Loop)with state:=.exhausted},J⟩=qa at b5 E G ab b8 l7 ⊢;simp only[ah,seval];show jU pv [{target:=.collected r,args:=#[]}] _ _;rw[jU];refine Ez b5 λk8 bh=>⟨rfl,?_⟩;refine(show dT pv aye (λ(s1:ai) h' z=>s1=s'/\h.ar h'/\Ny txt h h' z) 99 e' [] s' k8 from ?_);refine Wy (P:=pv) (fn:=aye) (n:=99) aCK U U U U (pa:=c2) (pb:=c3) (pc:=c4) (pd:=c5) v2 v3 v4 v5
    (ni O (bh _ _ (dq _ Y).2 E) rfl) (ni O (bh _ _ (dq _ Y).2 G) rfl) (FN O (bh _ _ (dq _ Y).2 ab) rfl) (FN O (bh _ _ (dq _ Y).2 b8) rfl) ?_
   exact⟨rfl,λd z hd=>bh _ _ (λe=>by rw[e,R.nl.2]at hd;cases hd) (l7 _ _ hd),.inl ⟨n,za,rfl⟩⟩
  subst q0;have za:mP txt=.inr a:=by rw[za,<- ot,List.drop_length];rfl
  rw[JL q2 L1];refine .inl ⟨L2,?_⟩;have Q:=R.ny mX.2.1 ⟨.loop {L with state:=.exhausted},J⟩;have b5:(h'.put l ⟨.loop {L with state:=.exhausted},J⟩) r=C ⟨.deferred (C []),J⟩:=by rw[bx (zz eE)];exact q3
  generalize h'.put l ⟨.loop {L with state:=.exhausted},J⟩=qa at Q b5;clear R q2 q3 q4 q1;obtain⟨⟨a1,bK,k1,rfl⟩,⟨a2,bR,k2,rfl⟩,⟨a3,cQ,k3,rfl⟩,a4,n4,k4,rfl⟩:=Q.sl;have E:=Q.g2;have G:=Q.g3;have ab:=Q.g4;have b8:=Q.g5;simp only[ah,seval,fI];intro t;refine tD (c:=J) (Cz:=λ_=>True) (xl:=[]) eR O O O O (.inl rfl) trivial ?_ t
  repeat first|refine lR rfl rfl (λh1=>by simp only[ah,seval,cJ,v2,v3,v4];exact rfl) ?_|refine lU rfl rfl (by simp only[ah,seval,cJ,v2,v3,v4,E,G,ab];exact rfl) ?_
  refine uW trivial (by simp only[ah,seval,iF,v2,E];intro h1 e;rw[e];exact lN E) ?_;refine uW trivial (by simp only[ah,seval,iF,v3,G];intro h1 e;rw[e];exact lN G) ?_;refine uW trivial (by simp only[ah,seval,iF,v4,ab];intro h1 e;rw[e];exact lN ab) ?_;refine uW trivial (by simp only[ah,seval,iF,v5,b8];intro h1 e;rw[e];exact lN b8) ?_;rw[tE];simp only[ah,seval];show jU pv [{target:=.collected r,args:=#[]}] _ _;rw[jU];refine Ez b5 λk8 bh=>⟨rfl,?_⟩;have mb:=Q.st.2.2 r mX.2.2;have hj:∀d∈[c2,c3,c4,c5,c6,cG],d≠r:=λd hd e=>(Q.st.2.1 d hd).2 (by rw[e];exact mX.2.2);obtain⟨hF,lF,nF,⟨o1,o2⟩,o3,o4⟩:=Q.q.out mb bh Q.aK;refine(show dT pv aye (λ(s1:ai) h' z=>s1=s'/\h.ar h'/\Ny txt h h' z) 99 (upd (upd (upd e' 96 _) 97 _) 98 _) [] s' k8 from ?_);refine Wy (P:=pv) (fn:=aye) (n:=99) aCK U U U U (pa:=c2) (pb:=c3) (pc:=c4) (pd:=c5) (by simp[ak,v2]) (by simp[ak,v3]) (by simp[ak,v4]) (by simp[ak,v5])
   (ni O (bh _ _ (hj _ Y) E) rfl) (ni O (bh _ _ (hj _ Y) G) rfl) (FN O (bh _ _ (hj _ Y) ab) rfl) (FN O (bh _ _ (hj _ Y) b8) rfl) ?_
  refine⟨rfl,λd z hd=>bh _ _ (λe=> ?_) (Q.le _ _ hd),.inr ⟨a,_,_,hF,za,zf.fits,rfl,lF,nF,⟨_,_,rfl,o1,o2⟩,_,_,rfl,o3,o4⟩⟩;rw[e,Q.aK r (Q.q.sub r mb)]at hd;cases hd
 .obtain⟨z0,z1,z2,eZ,a,M,aW,sv,bT,bV,za,zf,R⟩:=hZ;have hk:=(F1.1 hh).1;have hn:a.b.b2.length<=k/\a.b.cf.length<=k/\a.g.db.length<=k/\a.g.c7.length<=k:=⟨zf.nl,zf.ns,zf.xk,zf.wF⟩;have q7:k<=80000:=U
  have po:pc.length<=80000:=Nat.le_trans (Bn (aum hh)) n0;have il:(oK txt)[k]? =C (oJ pc):=by simp[oK,hh]
  have mA:(oK txt).drop k=oJ pc::(oK txt).drop (k+1):=by rw[List.drop_eq_getElem_cons U];congr 1;rw[Q4 U]at il;exact Option.some.inj il
  rw[mA]at za;have mL:(oJ pc).length<=90000:=by
   unfold oJ;split
   .simp;omega
   .omega
  have mS:∀bt h',iO (oJ pc)=C bt->jF bt a.last=J->h' l=C ⟨.loop L,J⟩->h' r=C ⟨.deferred (C []),J⟩->(∃x,h' c1=C x)->(∃M aW sv bT bV,gU h h' h' B X c2 c3 c4 c5 c6 cG (a.step bt) (k+1:Nat) M aW sv bT bV)->Zz (k+1) h':=λbt h' i j a1 b c ⟨M,aW,sv,bT,bV,d⟩=>⟨hk,a1,b,c,a.step bt,M,aW,sv,bT,bV,by rw[za,WJ i j],zf.step (WL mL i) j,d⟩;have hW:∀h',mP txt=.inl (k+1)->W1 h h' l r c2 c3 c4 c5 L (k+1)->W h':=λh' a b=>⟨_,a,b⟩;clear hh il mA z0;rw[L3,L5,L6];have rr:=rE (dst:=C 19) L7 aty (au pc);refine JJ (n:=99) (e:=upd en 19 (au pc)) rr O O ?_;simp only[ah,seval];rw[JK z1 L1];have Q:=R.ny mX.2.1 ⟨.loop {L with state:=.busy},J⟩;have ho:(o.put l ⟨.loop {L with state:=.busy},J⟩) l=C ⟨.loop {L with state:=.busy},J⟩:=cI;have b5:(o.put l ⟨.loop {L with state:=.busy},J⟩) r=C ⟨.deferred (C []),J⟩:=by rw[bx (zz eE)];exact z2
  have mT:(o.put l ⟨.loop {L with state:=.busy},J⟩) c1=C x:=by rw[bx (zz ih)];exact l2
  generalize eb:o.put l ⟨.loop {L with state:=.busy},J⟩=hb at Q ho b5 mT ⊢;clear eb R z1 z2 eZ l2;have N:=Q.g6;have a7:=Q.g7;simp only[ah,seval,u6,N];intro h2 e2;have w1:IntKind.i64.wrap ((k:Int)+1)=((k+1:Nat):Int):=by rw[cq U U];omega
  rw[w1]at e2;have R2:=Q.apR (v:=((k+1:Nat):Int));rw[<- e2]at R2;clear e2 N a7 Q;refine ev an1 (an9 pc [10] U _ _) ?_;rw[(atz:(if nW pc [10]then pc.take (pc.length- [(10:UInt8)].length)else pc)=oJ pc)];simp only[ah,seval];refine cd ap8 (aqa mL (h5.le R2.le) (n7.le R2.le)) λfe q8 z ⟨q1,bb,u,aA,q3,qq⟩=> ?_;subst q1;subst q3;rcases qq with⟨bt,t,v,q6,rfl,rfl,q4,q5⟩|⟨q6,et,ew,rfl⟩
  rotate_left
  .have R3:=R2.up bb;have a7:=R3.g7;have jl:mP txt=.inl (k+1):=by rw[za,WH q6]
   clear R2 bb;have lu:∀(f:o5->Prop),@bA o5 Prop u ⟨f⟩=f u:=λ_=>rfl;simp only[ah,seval,dg,wK,lu];simp only[fI];intro t;have E:=R3.g2;have G:=R3.g3;have ab:=R3.g4;have b8:=R3.g5;have N:=R3.g6;obtain⟨⟨k2,k3,k4,k5⟩,⟨m3,m4,m5⟩,⟨G2,G3,G4,G5⟩,j3,fs⟩:=R3.zero (p2:=#[.slice o0 0 0,.slice o0 0 0,.int .i64 0,.int .i64 0]) (p3:=#[.slice o0 0 0,.slice o0 0 0]) (p4:=#[.bool q9]) (p5:=#[re (k+1:Nat)]) rfl rfl rfl rfl;have cQ:=m3.trans G;have n4:=m4.trans ab;have n5:=m5.trans b8;refine tD (c:=q9) (Cz:=λh=>h c6=C ⟨.cells #[.int .i64 (k+1:Nat)] 3 (0,0),J⟩) (xl:=[38]) eR O O O O (.inr O) N ?_ t
   repeat first|refine lR rfl rfl (λh1=>by simp only[ah,seval,cJ,u6,qZ,rb];exact rfl) ?_|refine lU rfl rfl (by simp only[ah,seval,cJ,u6];exact rfl) ?_
   refine yY rfl rfl (λh1 g=>by simp only[ah,seval,cJ,u6,g];exact rfl) ?_
   repeat first|refine lR rfl rfl (λh1=>by simp only[ah,seval,cJ,WY,WZ];exact rfl) ?_|refine lU rfl rfl (by simp only[ah,seval];exact rfl) ?_
   refine n1 (k2.trans N) (by simp only[ah,seval,iF,u2,E];exactλ_ e=>e) ?_;refine n1 (k3.trans N) (by simp only[ah,seval,iF,u3,cQ];exactλ_ e=>e) ?_;refine n1 (k4.trans N) (by simp only[ah,seval,iF,u4,n4];exactλ_ e=>e) ?_;refine n1 (k5.trans N) (by simp only[ah,seval,iF,u5,n5];exactλ_ e=>e) ?_;rw[tE];simp only[ah,seval];rw[xr,WV ((fs l mX.2.1).trans ho)];have dq:∀c∈[c2,c3,c4,c5],c≠l/\c≠r:=λc hc=>by have:=(R3.st.2.1 c (by simp only[B4,auo,or_false]at hc ⊢;rcases hc with q|q|q|q<;>simp[q])).2;exact⟨λe=>this (e▸mX.2.1),λe=>this (e▸mX.2.2)⟩
   exact .inr ⟨rfl,hW _ jl ⟨by rw[bx (dq _ Y).1];exact G2,by rw[bx (dq _ Y).1];exact G3,by rw[bx (dq _ Y).1];exact G4,by rw[bx (dq _ Y).1];exact G5,cI,by rw[bx (zz eE)];exact(fs r mX.2.2).trans b5,λd z hd=>by rw[bx (λe=>by rw[e,hf.1]at hd;cases hd)];exact j3 _ _ hd,dq,hf⟩⟩
  have R3:=R2.up bb;have a7:=R3.g7;have eF:∀(A:vm) n c,v=.agg #[.slice (C A) n c]->A.block∉M/\h A.block=o0:=λA n c e=>by have f:=q5 A t n c (by rw[e]);refine⟨λhm=> ?_,fh R2.le f⟩;obtain⟨z,hz⟩:=R2.q.lt _ hm;rw[hz]at f;cases f
  clear R2 q5 bb;simp only[ah,seval,dg,sc,u7,a7];refine cd apF (apH q4) λs4 h4 z ⟨q1,bl,q3⟩=> ?_;subst q1;subst q3;have R4:=R3.up bl;have q4:=q4.le bl;clear R3 bl a7;cases m2:jF bt a.last with
  |false=>
   have jl:mP txt=.inl (k+1):=by rw[za,WI q6 m2]
   simp only[ah,seval];simp only[fI];intro t;have E:=R4.g2;have G:=R4.g3;have ab:=R4.g4;have b8:=R4.g5;have N:=R4.g6;obtain⟨⟨k2,k3,k4,k5⟩,⟨m3,m4,m5⟩,⟨G2,G3,G4,G5⟩,j3,fs⟩:=R4.zero (p2:=#[.slice o0 0 0,.slice o0 0 0,.int .i64 0,.int .i64 0]) (p3:=#[.slice o0 0 0,.slice o0 0 0]) (p4:=#[.bool q9]) (p5:=#[re (k+1:Nat)]) rfl rfl rfl rfl;have cQ:=m3.trans G;have n4:=m4.trans ab;have n5:=m5.trans b8;refine tD (c:=q9) (Cz:=λh=>h c6=C ⟨.cells #[.int .i64 (k+1:Nat)] 3 (0,0),J⟩) (xl:=[38]) eR O O O O (.inr O) N ?_ t
   repeat first|refine lR rfl rfl (λh1=>by simp only[ah,seval,cJ,u6,qZ,rb];exact rfl) ?_|refine lU rfl rfl (by simp only[ah,seval,cJ,u6];exact rfl) ?_
   refine yY rfl rfl (λh1 g=>by simp only[ah,seval,cJ,u6,g];exact rfl) ?_
   repeat first|refine lR rfl rfl (λh1=>by simp only[ah,seval,cJ,WY,WZ];exact rfl) ?_|refine lU rfl rfl (by simp only[ah,seval];exact rfl) ?_
   refine n1 (k2.trans N) (by simp only[ah,seval,iF,u2,E];exactλ_ e=>e) ?_;refine n1 (k3.trans N) (by simp only[ah,seval,iF,u3,cQ];exactλ_ e=>e) ?_;refine n1 (k4.trans N) (by simp only[ah,seval,iF,u4,n4];exactλ_ e=>e) ?_;refine n1 (k5.trans N) (by simp only[ah,seval,iF,u5,n5];exactλ_ e=>e) ?_;rw[tE];simp only[ah,seval];rw[xr,WV ((fs l mX.2.1).trans ho)];have dq:∀c∈[c2,c3,c4,c5],c≠l/\c≠r:=λc hc=>by have:=(R4.st.2.1 c (by simp only[B4,auo,or_false]at hc ⊢;rcases hc with q|q|q|q<;>simp[q])).2;exact⟨λe=>this (e▸mX.2.1),λe=>this (e▸mX.2.2)⟩
   exact .inr ⟨rfl,hW _ jl ⟨by rw[bx (dq _ Y).1];exact G2,by rw[bx (dq _ Y).1];exact G3,by rw[bx (dq _ Y).1];exact G4,by rw[bx (dq _ Y).1];exact G5,cI,by rw[bx (zz eE)];exact(fs r mX.2.2).trans b5,λd z hd=>by rw[bx (λe=>by rw[e,hf.1]at hd;cases hd)];exact j3 _ _ hd,dq,hf⟩⟩
  |true=>
  simp only[ah,seval];obtain⟨aK,fa,hi,m7⟩:=apE (main:=main) (S:=S) (s:=s4) (h:=h4) q4;refine Bi (v:=.iface t v) (by simp[ak,aA]) hi rfl (m7.mono λgA kg z ⟨q1,bm,q3⟩=> ?_);subst q1;subst q3;have R5:=R4.up bm;have q4:=q4.le bm;have a7:=R5.g7;clear R4 bm hi m7;simp only[ah,seval,u7,a7];intro h6 e6;have R6:=R5.apS (v:=(jP bt:Int));rw[<- e6]at R6;have em:aZ h M h6=aZ h M kg:=by rw[e6];exact Nr (R5.q.sub cG (R5.st.2.1 cG Y).1)
  clear e6 a7 R5;have fb:∀hF M' hx hq hs ht,gU h hb hF B X c2 c3 c4 c5 c6 cG (a.step bt) (k+1:Nat) M' hx hq hs ht->aH pv (Instr.endRound l o0) hF λv h'=>(v=.bool J/\Zz (k+1) h'/\h' c1=C x)\/(v=.bool q9/\W h'):=by
   intro hF M' hx hq hs ht I;have p1:hF l=C ⟨.loop {L with state:=.busy},J⟩:=by rw[I.cP l mX.2.1];exact ho
   rw[DS p1];have eL:({({L with state:=.busy}:Loop)with state:=.ready,pending:=o0}:Loop)=L:=by cases L;simp only at L1 L2;subst L1;subst L2;rfl
   rw[eL];have nb:(hF.put l ⟨.loop L,J⟩) c1=C x:=by rw[bx (zz ih),I.cP c1 mX.1];exact mT
   exact .inl ⟨rfl,mS bt _ q6 m2 cI (by rw[bx (zz eE),I.cP r mX.2.2];exact b5) ⟨_,nb⟩ ⟨M',hx,hq,hs,ht,I.ny mX.2.1 _⟩,nb⟩
  clear po mS hW;obtain⟨⟨a1,bK,k1,rfl⟩,⟨a2,bR,k2,rfl⟩,⟨a3,cQ,k3,rfl⟩,a4,n4,k4,rfl⟩:=R6.sl;have E:=R6.g2;have G:=R6.g3;have ab:=R6.g4;cases bt with
  |mG lM kh=>
   cases q4;simp only[ah,seval,pY,dg,bO];intro eG h7 ag F;have a6:=bw F;simp only[ah,seval,a6];intro h8 m;have bs:=bw m;have K:=R6.up (dM (bU ag F) ag m);have E:=K.g2;clear F m R6 a6 G ab;simp only[seval,fI];intro t;refine tD (c:=q9) (Cz:=λh=>h eG=C ⟨.cells #[.int .i64 lM,.int .i64 kh] 159 (0,0),J⟩) (xl:=[48,50]) eR O O O O (.inr O) bs ?_ t
   repeat first|refine lR rfl rfl (λh1=>by simp only[ah,seval,cJ];exact rfl) ?_|refine lU rfl rfl (by simp only[ah,seval,cJ];exact rfl) ?_
   refine yY rfl rfl (λh1 g=>by simp only[ah,seval,cJ,g];exact rfl) ?_
   repeat first|refine lR rfl rfl (λh1=>by simp only[ah,seval,cJ];exact rfl) ?_|refine lU rfl rfl (by simp only[ah,seval,cJ];exact rfl) ?_
   refine yY rfl rfl (λh1 g=>by simp only[ah,seval,cJ,g];exact rfl) ?_
   repeat first|refine lR rfl rfl (λh1=>by simp only[ah,seval,cJ,u2];exact rfl) ?_|refine lU rfl rfl (by simp only[ah,seval];exact rfl) ?_
   refine n1 (h':=h8.put c2 ⟨.cells #[.slice a1 bK k1,.slice a2 bR k2,.int .i64 lM,.int .i64 a.b.cS] 25 (0,0),J⟩) (fX bs E aty) (by simp only[ah,seval,iF,E];exactλ_ e=>e) ?_
   repeat first|refine lR rfl rfl (λh1=>by simp only[ah,seval,cJ,u2];exact rfl) ?_|refine lU rfl rfl (by simp only[ah,seval];exact rfl) ?_
   refine n1 (h':=h8.put c2 ⟨.cells #[.slice a1 bK k1,.slice a2 bR k2,.int .i64 lM,.int .i64 kh] 25 (0,0),J⟩) (fX bs E aty) (by simp only[ah,seval,iF,vK,oS];exactλ_ e=>e) ?_;rw[tE];have I:=K.apU (x:=lM) (y:=kh);simp only[ah,seval];exact fb _ _ _ _ _ _ I
  |nk rn=>obtain⟨va,vn,vc,aA,qi⟩:=q4;cases aA;have qi:iZ (aZ h M kg) _ _:=⟨FY qi.1 λA e=>eF A _ _ (by rw[e]),FZ qi.2 λA e=>eF A _ _ (by rw[e])⟩;rw[<- em]at qi;have qi:=iZ.le Nq qi;simp only[ah,seval,pY,Bj,dg];intro eG h7 ag F;have a6:=bw F;simp only[ah,seval,a6];intro h8 m;have bs:=bw m;have ef:=dM (bU ag F) ag m;have K:=R6.up ef;have E:=K.g2;have fx:=iZ.le ef qi;clear F m R6 a6 G ab qi ef;simp only[ah,seval,u2,E,bs];refine Wq λkl h9 cm D=> ?_;have H:=K.up (bU cm D);have eu:=bw D;have km:=iZ.le (bU cm D) fx;clear K E D fx;simp only[ah,seval];refine Wu H.q (show a.b.b2.length<=90000 by have:=hn.1;omega) km (λA e=>eF A _ _ (by rw[e])) (by rw[iX eu];rfl) λhx h10 M' eW out ey b0 eg=> ?_;obtain⟨bM,bE,b3,rfl⟩:=eg;have E:h10 c2=_:=(b0 c2 (H.st.2.1 c2 Y).1).trans H.g2;simp only[ah,seval,u2,E];intro b6 ek;have I:=H.Wz eW ⟨⟨_,_,_,rfl⟩,H.sl.2.1⟩ ⟨rfl,rfl⟩ out ey b0;rw[<- ek]at I;exact fb _ _ _ _ _ _ I
  |nm bc=>obtain⟨va,vn,vc,aA,qi⟩:=q4;cases aA;have qi:jD (aZ h M kg) _ _:=⟨FY qi.1 λA e=>eF A _ _ (by rw[e]),FZ qi.2 λA e=>eF A _ _ (by rw[e])⟩;rw[<- em]at qi;have qi:=jD.le Nq qi;simp only[ah,seval,pY,Bj,FX,dg];intro eG h7 ag F;have a6:=bw F;simp only[ah,seval,a6];intro h8 m;have bs:=bw m;have ef:=dM (bU ag F) ag m;have K:=R6.up ef;have E:=K.g2;have fx:=jD.le ef qi;clear F m R6 a6 G ab qi ef;simp only[ah,seval,u2,E,bs];refine Wr λkl h9 cm D=> ?_;have H:=K.up (bU cm D);have eu:=bw D;have km:=jD.le (bU cm D) fx;clear K E D fx;simp only[ah,seval];refine Wv H.q (show a.b.cf.length<=90000 by have:=hn.2.1;omega) km (λA e=>eF A _ _ (by rw[e])) (by rw[iX eu];rfl) λhq h10 M' eW out ey b0 eg=> ?_;obtain⟨bM,bE,b3,rfl⟩:=eg;have E:h10 c2=_:=(b0 c2 (H.st.2.1 c2 Y).1).trans H.g2;simp only[ah,seval,u2,E];intro b6 ek;have I:=H.Wz eW ⟨H.sl.1,_,_,_,rfl⟩ ⟨rfl,rfl⟩ out ey b0;rw[<- ek]at I;exact fb _ _ _ _ _ _ I
  |ground=>cases q4;simp only[ah,seval,pY,Bj,FX,uX,dg,f165];intro eG h7 ag F;have a6:=bw F;simp only[ah,seval,a6,f165];intro h8 m;have K:=R6.up (dM (bU ag F) ag m);have ab:=K.g4;clear F m R6 a6;simp only[ah,seval,u4,ab];intro h9 D;have I:=K.apT (v:=J);rw[<- D]at I;exact fb _ _ _ _ _ _ I
  |nY w=>cases q4;simp only[ah,seval,pY,Bj,FX,uX,zd,dg,fU.v,bO];intro eG h7 ag F;have a6:=bw F;simp only[ah,seval,a6];intro h8 m;have bs:=bw m;have K:=R6.up (dM (bU ag F) ag m);have G:=K.g3;clear F m R6 a6 E ab;simp only[ah,seval,u3,G,bs];refine Ws (w:=w) λkl h9 cm D=> ?_;have H:=K.up (bU cm D);have eu:=bw D;clear K G D;simp only[ah,seval];refine Ww H.q (show a.g.db.length<=90000 by have:=hn.2.2.1;omega) (w:=w) (by rw[iX eu];rfl) λhs h10 M' eW out ey b0 eg=> ?_;obtain⟨bM,bE,b3,rfl⟩:=eg;have G:h10 c3=_:=(b0 c3 (H.st.2.1 c3 Y).1).trans H.g3;simp only[ah,seval,u3,G];intro b6 ek;have I:=H.WA eW ⟨⟨_,_,_,rfl⟩,H.sl.2.2.2⟩ out ey b0;rw[<- ek]at I;exact fb _ _ _ _ _ _ I
  |nZ w=>cases q4;simp only[ah,seval,pY,Bj,FX,uX,zd,Bl,dg,fV.v,bO];intro eG h7 ag F;have a6:=bw F;simp only[ah,seval,a6];intro h8 m;have bs:=bw m;have K:=R6.up (dM (bU ag F) ag m);have G:=K.g3;clear F m R6 a6 E ab;simp only[ah,seval,u3,G,bs];refine Wt (w:=w) λkl h9 cm D=> ?_;have H:=K.up (bU cm D);have eu:=bw D;clear K G D;simp only[ah,seval];refine Wx H.q (show a.g.c7.length<=90000 by have:=hn.2.2.2;omega) (w:=w) (by rw[iX eu];rfl) λht h10 M' eW out ey b0 eg=> ?_;obtain⟨bM,bE,b3,rfl⟩:=eg;have G:h10 c3=_:=(b0 c3 (H.st.2.1 c3 Y).1).trans H.g3;simp only[ah,seval,u3,G];intro b6 ek;have I:=H.WA eW ⟨H.sl.2.2.1,_,_,_,rfl⟩ out ey b0;rw[<- ek]at I;exact fb _ _ _ _ _ _ I
end
section
open Go.Extern
abbrev Gf(t:Nat):o5:=.pointer (C ⟨12,t,o0⟩)
abbrev oc(t b:Nat)(f:Int):o5:=.agg #[Gf t,.pointer (C ⟨b,0,o0⟩),.int .u64 f]
abbrev RT(t:Nat):o5:=.iface 235 (.agg #[Gf t])
section
variable{P:tb}{h:ae}
def aqi{a:Option vm}{Q:o5->ae->Prop}:aH pv (ReflectliteValue.unpack (.iface 106 (.pointer a))) h Q=∀b,h b=o0->Q (oc 106 b 150) (h.put b ⟨.cells #[.pointer a] 106,J⟩):=O
def aqj{n:Int}{Q:o5->ae->Prop}:aH pv (ReflectliteValue.unpack (.iface 104 (.agg #[.int .i64 n]))) h Q=∀b,h b=o0->Q (oc 104 b 153) (h.put b ⟨.cells #[.int .i64 n] 104,J⟩):=O
def aqk{b:Nat}{z:Sem o5}{Q:o5->ae->Prop}:aH pv (ReflectliteValue.methodAny z (λt _ _ _=>ReflectliteType.toType t) #[oc 106 b 150]) h Q=Q (RT 106) h:=O
def aql{v:o5}{Q:o5->ae->Prop}:aH pv (ReflectliteType.typeOf #[.iface 104 v]) h Q=Q (RT 104) h:=O
def W4{b:Nat}{Q:Option (ta×vm×Nat)->ae->Prop}:aH pv (ReflectliteValue.parts (oc 106 b 150)) h Q=Q (C (106,⟨b,0,o0⟩,150)) h:=O
def aqm{b:Nat}{Q:Option (ta×vm×Nat)->ae->Prop}:aH pv (ReflectliteValue.parts (oc 104 b 153)) h Q=Q (C (104,⟨b,0,o0⟩,153)) h:=O
def aqn{b:Nat}{Q:Option (ta×vm×Nat)->ae->Prop}:aH pv (ReflectliteValue.parts (oc 104 b 409)) h Q=Q (C (104,⟨b,0,o0⟩,409)) h:=O
def aqo{Q:T7->ae->Prop}:aH pv (atT (.fn (.method "Kind") #[]) #[RT 106]) h Q=(mo (.extern 245)=J/\Q (.value (.int .u8 22)) h):=O
def aqp{Q:T7->ae->Prop}:aH pv (atT (.fn (.method "Kind") #[]) #[RT 104]) h Q=(mo (.extern 245)=J/\Q (.value (.int .u8 25)) h):=O
def aqr{Q:T7->ae->Prop}:aH pv (atT (.fn (.method "Elem") #[]) #[RT 106]) h Q=(mo (.extern 262)=J/\Q (.value (RT 104)) h):=O
def aqs{Q:T7->ae->Prop}:aH pv (atT (.fn (.method "Implements") #[]) #[RT 104,RT 91]) h Q=(mo (.extern 263)=J/\Q (.value (.bool J)) h):=O
def aqt{Q:T7->ae->Prop}:aH pv (atT (.fn (.method "AssignableTo") #[]) #[RT 104,RT 104]) h Q=(mo (.extern 260)=J/\Q (.value (.bool J)) h):=O
end
section
variable{P:tb}{main:Bool}{ai:Type}{S:Sys ai}{b:aS}{e:Env}{d:List tc}{s:ai}{h:ae}{N:Env->List tc->ai->ae->Prop}
def Bo{dst:Option Nat}{a:su}{c pos:String}{ty:Nat}{es:Array Edge}{g:Option (Nat×Bool)}{xs:Array su}{gH:Array ta}{v r:o5}{as_:Array o5}{m:Mark}(f:aA e a=v)(i:#[v]++xs.map (aA e)=as_)(hi:∀Q,aH P (atT (.fn (.method c) #[]) as_) h Q=(mo m=J/\Q (.value r) h))(j:mo m=J)(hd:kS b ⟨dst,.call ⟨.invoke a c,xs,gH⟩,ty,pos,es,g⟩=q9)
  (u:N (b7 e dst r) d s h):bP P main S b ⟨dst,.call ⟨.invoke a c,xs,gH⟩,ty,pos,es,g⟩ e d s h N:=by
 refine .inl ⟨hd,?_⟩;have k:execOp (aA e) ⟨dst,.call ⟨.invoke a c,xs,gH⟩,ty,pos,es,g⟩=(do let d <- resolve (aA e) ⟨.invoke a c,xs,gH⟩ ty;atT d.target d.args):=rfl;rw[k];simp only[resolve,aJ,aR,f];rw[i];exact(hi (tV P main S ⟨dst,.call ⟨.invoke a c,xs,gH⟩,ty,pos,es,g⟩ e d s N)).mpr ⟨j,u⟩
end
end
section
open Go.Extern
section
variable{h:ae}
def W5(z:Sem o5)(f:ta->vm->Nat->Nat->Sem o5)(v:o5):ReflectliteValue.method z f #[v]=(do match <- ReflectliteValue.parts v with|none=>z|some (t,a,b)=>f t a b (b%32)):=rfl
def W7:fS pv 106=C o0:=O
def aqu:fS pv 104=C (C 1):=O
def aqv:cu pv 104=C 1:=O
def aqw{Q:Option ta->ae->Prop}:aH pv (Rtype.elem? 106) h Q=Q (C 104) h:=O
def aqx{p:vm}{Q:o5->ae->Prop}:aH pv (ReflectliteValue.mk 104 p ReflectliteValue.flagAddr) h Q=Q (.agg #[Gf 104,.pointer (C p),.int .u64 409]) h:=O
def aqy{Q:Bool->ae->Prop}:aH pv (Rtype.directlyAssignable 104 104) h Q=Q J h:=O
def aqz{b:Nat}{p:vm}{z:Sem o5}{Q:o5->ae->Prop}(g:h.cell? ⟨b,0,o0⟩=C (.pointer (C p))):aH pv (ReflectliteValue.method z ReflectliteValue.elem #[oc 106 b 150]) h Q=Q (.agg #[Gf 104,.pointer (C p),.int .u64 409]) h:=by rw[W5,aJ,W4];simp only[ReflectliteValue.elem,(atz:(150%32 != 20&&150%32 != 22)=q9),N2,if_false,aJ,rF,W7,pB,g,aqw,aqx]
def aqA{b:Nat}{p:vm}{z:Sem o5}{Q:o5->ae->Prop}(g:h.cell? ⟨b,0,o0⟩=C (.pointer (C p))):aH pv (ReflectliteValue.method z ReflectliteValue.isNil #[oc 106 b 150]) h Q=Q (.bool q9) h:=by rw[W5,aJ,W4];simp only[ReflectliteValue.isNil,(atz:(!([18,19,20,21,22,23,26].contains (150%32)))=q9),N2,if_false,aJ,aR,rF,W7,pB,g]
def aqB(v x:o5):ReflectliteValue.set #[v,x]=(do
  let(C (dst,a,d),C (src,b,_)):=(<- ReflectliteValue.parts v,<- ReflectliteValue.parts x)
   |unsupported (.noEntry "extern/(internal/reflectlite.Value).Set.zeroValue")
  if d/ReflectliteValue.flagAddr%2==0 then unsupported (.noEntry "extern/(internal/reflectlite.Value).Set.unaddressable")
  let c <- loadVar src b
  if <- Rtype.directlyAssignable dst src then axM dst a c
  else if <- Rtype.implements dst src then
   if(<- Rtype.kind src)==20 then
    match c with
    | .nilIface=>unsupported (.noEntry "extern/reflectlite: a nil value of one interface type handed on as a value of another")
    |_=>axM dst a c
   else axM dst a (.iface src c)
  else panicString ("reflectlite.Set: value of type " ++(<- Rtype.spelt src)++ " is not assignable to type " ++(<- Rtype.spelt dst))
  pure (.tuple #[])):=rfl
def aqC{b p:Nat}{n o:Int}{Q:o5->ae->Prop}(gb:h b=C ⟨.cells #[.int .i64 n] 104 (0,0),J⟩)(a:h p=C ⟨.cells #[.int .i64 o] 104 (0,0),J⟩)(k:Q (.tuple #[]) (h.put p ⟨.cells #[.int .i64 n] 104 (0,0),J⟩)):aH pv (ReflectliteValue.set #[oc 104 p 409,oc 104 b 153]) h Q:=by
 have c:h.iS ⟨b,0,o0⟩ 0 1=C [.int .i64 n]:=by rw[iX gb];rfl
 have c1:h.cell? ⟨p,0,o0⟩=C (.int .i64 o):=by simp[ae.cell?,a]
 rw[aqB];simp only[aJ,aqn,aqm,aR,(atz:(409/ReflectliteValue.flagAddr%2==0)=q9),N2,if_false,rF,aqu,pB,c,aqy,if_true,Ou,aqv];refine⟨rfl,?_⟩;simp only[Value.cells];refine⟨⟨rfl,?_⟩,?_⟩
 .simp[ae.BR,Addr.add,ae.owns,a,c1,ae.frozen?]
 .simp only[nx];have:h.setCell (Addr.add ⟨p,0,o0⟩ 0) (.int .i64 n)=h.put p ⟨.cells #[.int .i64 n] 104 (0,0),J⟩:=by simp[ae.setCell,a,Addr.add]
  rw[this];exact k
end
end
section
open Go.Extern
def uZ:=aD (cU 173 3) (aD (ie 173 [.pointer o0,.pointer o0,.int .u64 0]) (bZ 176))
section
variable{main:Bool}{ai:Type}{S:Sys ai}{s:ai}{h:ae}
def aqD:bz pv 80=J:=O
def aqE{n o:Int}{p b:Nat}(gb:h b=C ⟨.cells #[aV p 0] 106 (0,0),J⟩)(j:h p=C ⟨.cells #[.int .i64 o] 104 (0,0),J⟩):bo pv main S 80 #[re n,.iface 106 (aV p 0),oc 106 b 150,RT 104] s h λq h' z=>q=s/\(∀d x,d≠p->h d=C x->h' d=C x)/\h' p=C ⟨.cells #[.int .i64 n] 104 (0,0),J⟩/\z=.bool J:=by
 refine bL (args:=[re n,.iface 106 (aV p 0),oc 106 b 150,RT 104]) Tryz.func80 (by delta Tryz.f80;rfl) Tryz.ntmps80 Y O ?_;simp only[ah,seval,re,oc,RT];intro c h1 hc i;have a:=bU hc i;have r:=bw i;intro X k;refine k _ _ _ _ ?_;simp only[ah,seval];refine ej.native (K:=⟨_⟩) Tryz.func121 O O O (x:=ReflectliteType.typeOf) O ?_;unfold al;rw[aql];simp only[ah,seval,RT];refine Bo (v:=RT 104) (as_:=#[RT 104,RT 104]) (m:=.extern 260) (by simp[ak,aA]) (by simp[ak,aA]) (λQ=>aqt) rfl rfl ?_;simp only[ah,seval,r,uZ];refine ej.native (K:=⟨_⟩) Tryz.func122 O O O (x:=ReflectliteValue.method (ReflectliteValue.valueError "reflectlite.Value.Elem" 0) ReflectliteValue.elem) O ?_;unfold al;have l:=a _ _ gb;have t:h1.cell? ⟨b,0,o0⟩=C (.pointer (C ⟨p,0,o0⟩)):=by simp[ae.cell?,l]
 rw[aqz t];simp only[ah,seval];refine ej.native (K:=⟨_⟩) Tryz.func77 O O O (x:=λargs=>ReflectliteValue.unpack (args.getD 0 (.tuple #[]))) O ?_;unfold al;refine aqj.mpr λd hd=> ?_;have f:=bU hd rfl (x:=⟨.cells #[.int .i64 n] 104 (0,0),J⟩);have aT:=bw (h:=h1) (c:=d) rfl (x:=⟨.cells #[.int .i64 n] 104 (0,0),J⟩);have g:=f _ _ (a _ _ j);generalize h1.put d ⟨.cells #[.int .i64 n] 104 (0,0),J⟩=y at f aT g ⊢;simp only[ah,seval,oc];refine ej.native (K:=⟨_⟩) Tryz.func123 O O O (x:=ReflectliteValue.set) O ?_;unfold al;refine aqC aT g ?_;simp only[ah,seval];exact bu Tryz.results80 Y ⟨rfl,λe x u w=>by rw[bx u];exact f _ _ (a _ _ w),cI,atA⟩
end
end
section
open Go.Extern
def ve(h:ae):Prop:=∃q f w,h 2=C ⟨.cells #[RT 91] q f,w⟩
def ve.le{h h':ae}(l:h.ar h')(t:ve h):ve h':=let⟨q,f,w,e⟩:=t;⟨q,f,w,l _ _ e⟩
section
variable{main:Bool}{ai:Type}{S:Sys ai}{s:ai}{h:ae}
def aqF:∃ms,pv.underlying 20=C (.interface ms):=Vf O
def aqG{x y:su}{u:Nat}{v:o5}[K:KK o5]:al pv (bN .eql 20 x y (.iface u v) .nilIface) h=K.f (.bool q9) h:=let⟨_,e⟩:=aqF;Vv e
def aqH{n o:Int}{p:Nat}(l:h p=C ⟨.cells #[.int .i64 o] 104 (0,0),J⟩)(cU:ve h):bo pv main S 42 #[re n,.iface 106 (aV p 0)] s h λB h' z=>B=s/\(∀d x,d≠p->h d=C x->h' d=C x)/\h' p=C ⟨.cells #[.int .i64 n] 104 (0,0),J⟩/\z=.bool J:=by
 refine bL (args:=[re n,.iface 106 (aV p 0)]) Tryz.func42 (by delta Tryz.f42;rfl) Tryz.ntmps42 Y O ?_;simp only[ah,seval,re,Vw,aqG,uZ];refine ej.native (K:=⟨_⟩) Tryz.func77 O O O (x:=λargs=>ReflectliteValue.unpack (args.getD 0 (.tuple #[]))) O ?_;refine aqi.mpr λb hb=> ?_;have a:=bU hb rfl (x:=⟨.cells #[aV p 0] 106 (0,0),J⟩);have i:=bw (h:=h) (c:=b) rfl (x:=⟨.cells #[aV p 0] 106 (0,0),J⟩);generalize h.put b ⟨.cells #[aV p 0] 106 (0,0),J⟩=h1 at a i ⊢;simp only[ah,seval,oc,uZ];intro c I hc j;have q:=bU hc j;have D:=bw j;simp only[ah,seval,uZ,D];intro h3 k;have f:=bw k;have e:h1.ar h3:=dM q hc k;simp only[ah,seval,uZ,f];refine ej.native (K:=⟨_⟩) Tryz.func78 O O O (x:=ReflectliteValue.methodAny (ReflectliteValue.valueError "reflectlite.Value.Type" 0) (λt _ _ _=>ReflectliteType.toType t)) O ?_;refine aqk.mpr ?_;simp only[ah,seval,RT];refine Bo (v:=RT 106) (as_:=#[RT 106]) (m:=.extern 245) (by simp[ak,aA]) Y (λQ=>aqo) rfl rfl ?_;have g:=e _ _ i;have E:h3.cell? ⟨b,0,o0⟩=C (.pointer (C ⟨p,0,o0⟩)):=by simp[ae.cell?,g]
 simp only[ah,seval,uZ,f];refine ej.native (K:=⟨_⟩) Tryz.func79 O O O (x:=ReflectliteValue.method (ReflectliteValue.valueError "reflectlite.Value.IsNil" 0) ReflectliteValue.isNil) O ?_;refine(aqA E).mpr ?_;simp only[ah,seval];refine Bo (v:=RT 106) (as_:=#[RT 106]) (m:=.extern 262) (by simp[ak,aA]) Y (λQ=>aqr) rfl rfl ?_;simp only[ah,seval,RT];refine Bo (v:=RT 104) (as_:=#[RT 104]) (m:=.extern 245) (by simp[ak,aA]) Y (λQ=>aqp) rfl rfl ?_;obtain⟨G,dQ,L,r⟩:=(cU.le a).le e;simp only[ah,seval,uZ,r];refine Bo (v:=RT 104) (as_:=#[RT 104,RT 91]) (m:=.extern 263) (by simp[ak,aA]) (by simp[ak,aA]) (λQ=>aqs) rfl rfl ?_;simp only[ah,seval,uZ,f];refine cd aqD (aqE (n:=n) g (e _ _ (a _ _ l))) λH M z ⟨u,w,y,A⟩=> ?_;subst u;subst A;simp only[ah,seval];refine bu Tryz.results42 Y ⟨rfl,λd x hd F=>w d x hd (e _ _ (a _ _ F)),y,atA⟩
end
end
section
variable{main:Bool}{ai:Type}{S:Sys ai}{s:ai}{h:ae}
def Nz(txt:List UInt8)(h h':ae)(z:o5):Prop:=∃dR b a,z=.tuple #[dR,b,.int .i64 (ia txt).2.2.1,.int .i64 (ia txt).2.2.2]/\a.ar h'/\(∀d,(h d).isSome=J->a d=o0)/\k7 a dR (ia txt).1/\kL a b (ia txt).2.1
def aqI{txt:List UInt8}{h':ae}{n f:Int}(a:ia txt=(ob,pj,n,f)):Nz txt h h' (.tuple #[Gd,Ge,.int .i64 n,.int .i64 f]):=by
 refine⟨Gd,Ge,ae.empty,by rw[a],λb x e=>(by cases e),λd _=>rfl,?_,?_⟩
 .rw[a];exact⟨_,_,rfl,⟨[],⟨o0,0,0,0,rfl,rfl,.inl rfl⟩,rfl,Y⟩,[],⟨o0,0,0,0,rfl,rfl,.inl rfl⟩,rfl,Y⟩
 .rw[a];exact⟨_,_,rfl,⟨o0,0,0,0,rfl,rfl,.inl rfl⟩,o0,0,0,0,rfl,rfl,.inl rfl⟩
def aqJ{txt:List UInt8}(hl:txt.length<=60000)(h5:oH h)(h3:pf h)(cU:ve h)(ht:tv h):bo pv main S 10 #[au txt] s h λs' h' z=>s'=s/\h.ar h'/\Nz txt h h' z:=by
 refine bL (args:=[au txt]) Tryz.func10 (by delta Tryz.f10;rfl) Tryz.ntmps10 Y O ?_;simp only[ah,seval];intro c2 h2 K e2 c3 eE R e3;have B:=bU K e2;have D:=bU R e3;have g2:=D _ _ (bw e2);have g3:=bw e3;have eF:c3≠c2:=λe=>by rw[e,bw e2]at R;cases R
 have f3:h c3=o0:=fh B R;clear e2 e3;have af:∀(n f:Int) (e:Env) (aa:ae),h.ar aa->ia txt=(ob,pj,n,f)->e 2=aV c2 0->e 3=aV c3 0->e 4=.int .i64 n->e 5=.int .i64 f->aa c2=C ⟨.cells #[.slice o0 0 0,.slice o0 0 0,.int .i64 0,.int .i64 0] 25 (0,0),J⟩->aa c3=C ⟨.cells #[.slice o0 0 0,.slice o0 0 0] 29 (0,0),J⟩->
   dT pv Tryz.f10 (λs' h' z=>s'=s/\h.ar h'/\Nz txt h h' z) 45 e [] s aa:=by
  intro n f e aa le L W y3 y4 y5 E F;refine F0 aCL Y Y Y Y (pa:=c2) (pb:=c3) W y3 (ni O E rfl) (ni O F rfl) ⟨rfl,le,?_⟩;rw[y4,y5];exact aqI L
 simp only[ah,seval,eH,decide_eq_false (U:¬((txt.length:Nat):Int)>60000)];refine cd aqg (aqh U (h5.le (B.ay D)) (h3.le (B.ay D))) λs4 h4 z ⟨m,M,hP⟩=> ?_;subst m;have w:=M _ _ g2;have G:=M _ _ g3;rcases hP with⟨n,H,rfl⟩|⟨a,dR,gv,hF,H,⟨fb,fg⟩,rfl,lF,nF,qb,qg⟩
 .simp only[ah,seval,dg,Gd,Ge,re,w];intro h6 o;have o:h6=h4:=o.trans (lN w);subst o;simp only[ah,seval,G];intro h7 p;have p:h7=h6:=p.trans (lN G);subst p;have l:=B.ay (D.ay M);intro dW h8 q I;have j:=bU q I;have g8:=bw I;clear I;have cp:c2≠dW:=λe=>by rw[<- e,w]at q;cases q
  have cM:c3≠dW:=λe=>by rw[<- e,G]at q;cases q
  have n8:h dW=o0:=fh l q;simp only[ah,seval,WX];refine cd Wf (aqH g8 (cU.le (l.ay j))) λjC h9 z ⟨m,k9,g9,x⟩=> ?_;subst m;subst x;have E:=k9 _ _ cp (j _ _ w);have F:=k9 _ _ cM (j _ _ G);have dd:h.ar h9:=λd z hd=>k9 d z (λe=>by rw[e,n8]at hd;cases hd) (j _ _ (l _ _ hd));simp only[ah,seval,fI];intro t;refine tD (c:=J) (Cz:=λ_=>True) (xl:=[]) eR O O O O (.inl rfl) trivial ?_ t
  repeat first|refine lR rfl rfl (λh1=>by simp only[ah,seval,cJ,qZ,rb];exact rfl) ?_|refine lU rfl rfl (by simp only[ah,seval,cJ,g9];exact rfl) ?_
  refine uW trivial (by simp only[ah,seval,iF,E];intro h1 e;rw[e];exact lN E) ?_;refine uW trivial (by simp only[ah,seval,iF,F];intro h1 e;rw[e];exact lN F) ?_
  repeat first|refine lR rfl rfl (λh1=>by simp only[ah,seval,cJ];exact rfl) ?_|refine lU rfl rfl (by simp only[ah,seval,cJ,E,F];exact rfl) ?_
  rw[tE];simp only[ah,seval];exact af n 3 _ _ dd (WM H) atA atA atA atA E F
 obtain⟨v1,v2,rfl,y1,W⟩:=id qb;obtain⟨w1,w2,rfl,y3,y4⟩:=id qg;obtain⟨_,da,_⟩:=id y1;obtain⟨_,dQ,_⟩:=id W;obtain⟨bM,eu,k1,rfl⟩:=da.form;obtain⟨bE,m2,k2,rfl⟩:=dQ.form;obtain⟨b3,m3,k3,rfl⟩:=y3.form;obtain⟨b4,m4,k4,rfl⟩:=y4.form;simp only[ah,seval,dg,bO,w];intro h6 o;have bh:=oL o G w aty;have b8:=bw o;have b9:=dM (B.ay (D.ay M)) K o;simp only[ah,seval,bh];intro h7 p;have j3:=bw p;have j2:=oL p b8 bh aty;have l:=dM b9 f3 p;have l7:hF.ar h7:=dM (dM lF (nF c2 (by rw[g2];rfl)) o) (nF c3 (by rw[g3];rfl)) p;have ee:∀d,(h d).isSome=J->hF d=o0:=λd hd=>by obtain⟨z,hz⟩:=Option.isSome_iff_exists.1 hd;exact nF d (by rw[D _ _ (B _ _ hz)];rfl)
 have ef:=qb.le l7;have eg:=qg.le l7;clear o p bh b8 w G b9 y1 W y3 y4 da dQ M g2 g3;intro dW h8 q I;have j:=bU q I;clear I;simp only[ah,seval,WX];refine cd Wf (apI ⟨_,_,rfl⟩) λjC h9 z ⟨m,q2,x⟩=> ?_;subst m;subst q2;subst x;have i:=j _ _ j2;have k:=j _ _ j3;cases hw:a.jQ with
 |false=>simp only[ah,seval,qZ,rb,i];intro ey bl;have r:=oL bl k i aty;have N:=bw bl;have u:=dM (l.ay j) K bl;simp only[ah,seval,r];intro cb y;exact af 0 3 _ _ (dM u f3 y) (WN H hw) atA atA atA atA (oL y N r aty) (bw y)
 |true=>
 have dr:∀(aa:ae) (e:Env) (v:Int) (hy hz:ae),True:=λ_ _ _ _ _=>trivial;simp only[ah,seval,i];refine cd Uh (Uj (ef.le j) fb (ht.le (l.ay j))) λe0 ey z ⟨m,u,x⟩=> ?_;subst m;subst x;have i:=u _ _ i;have k:=u _ _ k;cases h0:(a.b.dr==0)with
 |false=>
  have P:a.b.dr≠0:=by simpa using h0
  have ji:gY a.b a.g=a.b.dr:=by unfold gY;rw[if_neg P]
  simp only[ah,seval,h0,show(a.b.dr != 0)=J by simp[P],qZ,rb,i];intro cb y;have r:=oL y k i aty;have N:=bw y;have Q:=dM (l.ay (j.ay u)) K y;simp only[ah,seval,r];intro ez A;exact af 0 a.b.dr _ _ (dM Q f3 A) (by rw[Ga H hw (by rw[ji];exact P),ji]) atA atA atA atA (oL A N r aty) (bw A)
 |true=>
 have P:a.b.dr=0:=by simpa using h0
 have ji:gY a.b a.g=a.g.dr:=by unfold gY;rw[if_pos P]
 simp only[ah,seval,h0,k];refine cd UB (UC (eg.le (j.ay u)) fg (ht.le (l.ay (j.ay u)))) λe1 cb z ⟨m,Q,x⟩=> ?_;subst m;subst x;have i:=Q _ _ i;have k:=Q _ _ k;have bm:=j.ay (u.ay Q);by_cases X:a.g.dr=0
 rotate_left
 .simp only[ah,seval,show(a.g.dr != 0)=J by simp[X],qZ,rb,i];intro ez A;have r:=oL A k i aty;have N:=bw A;have ek:=dM (l.ay bm) K A;simp only[ah,seval,r];intro fl bn;exact af 0 a.g.dr _ _ (dM ek f3 bn) (by rw[Ga H hw (by rw[ji];exact X),ji]) atA atA atA atA (oL bn N r aty) (bw bn)
 have L:=WO H hw (by rw[ji];exact X);simp only[ah,seval,show(a.g.dr != 0)=q9 by simp[X],fI];intro t;refine tD (c:=J) (Cz:=λ_=>True) (xl:=[]) eR O O O O (.inl rfl) trivial ?_ t
 repeat first|refine lR rfl rfl (λh1=>by simp only[ah,seval,cJ];exact rfl) ?_|refine lU rfl rfl (by simp only[ah,seval,cJ,i,k];exact rfl) ?_
 refine uW trivial (by simp only[ah,seval,iF,i];intro h1 e;rw[e];exact lN i) ?_;refine uW trivial (by simp only[ah,seval,iF,k];intro h1 e;rw[e];exact lN k) ?_
 repeat first|refine lR rfl rfl (λh1=>by simp only[ah,seval,cJ];exact rfl) ?_|refine lU rfl rfl (by simp only[ah,seval,cJ,i,k];exact rfl) ?_
 rw[tE];simp only[ah,seval];refine F0 aCL Y Y Y Y (pa:=c2) (pb:=c3) atA atA (ni O i rfl) (ni O k rfl) ⟨rfl,l.ay bm,.agg #[.slice bM eu k1,.slice bE m2 k2,bO a.b.cW,bO a.b.cS],.agg #[.slice b3 m3 k3,.slice b4 m4 k4],hF,by rw[L];simp[ak,bO],l7.ay bm,ee,by rw[L];exact qb,by rw[L];exact qg⟩
end
section
variable{P:tb}{main:Bool}{ai:Type}{Sy:Sys ai}{b:aS}{d:List tc}{l:List Oper}{N:Env->List tc->ai->ae->Prop}
def aqK(bm:mE l=J)(he:l5 0 l=J)(cc:P.follows .mixedOrders=J)(f:List Nat)
  (ck:(List.range f.length).all (λk=>Nat.beq k 0||(jR l (f.getD k 0)).contains (f.getD (k- 1) 0))=J) (cl:f.all (λi=>Nat.blt i l.length)=J) (eb:f.Nodup)
  (F:Nat->Nat->o5->ae->Prop) (Fm:∀c i v h h',h.ar h'->F c i v h->F c i v h') {e0:Env} {aP:ai} {h0:ae}
  (w:Nat->ae->Prop) (cm:∀c h h',h.ar h'->w c h->w c h') (cp:w 0 h0) (R:Nat->Env->ae->ae->Prop) (R0:∀c e h h',w c h->R c e h h'->w (c+1) h') (FR:∀c i v e h h',w c h->R c e h h'->(∀a,(l[i]?).bind (·.dst)=C a->v=e a)->F c i v h->F (c+1) i v h')
  (step:∀(i:Nat) (o:Oper),l[i]? =C o->∀c e h,w c h->(f.contains i=J->f[c]? =C i)->(∀k j,f[k]? =C j->(jR l i).contains j=J->k<c)->(∀k j,f[k]? =C j->(jR l j).contains i=J->c<=k)->(∀a,l.all (λu=>u.dst != C a)=J->e a=e0 a)->(∀(j a:Nat),(jR l j).contains i=J->(l[j]?).bind (·.dst)=C a->e a=e0 a)->(∀(j a:Nat),(o.after.toList.any λx=>x.on==j&&Region.binds .any x)=J->(l[j]?).bind (·.dst)=C a->F c j (e a) h)->
   bP P main Sy b o e d aP h λe' d' s' h'=>d'=d/\∃v,e'=b7 e o.dst v/\s'=aP/\(if f.contains i then R c e h h'/\F (c+1) i v h' else h.ar h'/\F c i v h'))
  (ec:∀e h,w f.length h->(∀a,l.all (λu=>u.dst != C a)=J->e a=e0 a)->(∀(i a:Nat),(l[i]?).bind (·.dst)=C a->F f.length i (e a) h)->N e d aP h) (t:Nat):
  fO P main Sy b l.toArray (Region.schedule (P.follows .mixedOrders) l.toArray t) e0 d aP h0 N:=by
 have ed:∀{i j:Nat} {o u:Oper} {t:Nat},l[i]? =C o->l[j]? =C u->o.dst=C t->u.dst=C t->i=j:=λhi p e e'=>uE bm hi p (e.trans e'.symm) (by rw[e];simp);have hz:l.toArray.size=l.length:=Y
 have a6:∀{k i:Nat},f[k]? =C i->i<l.length:=λ{k i} n=>by have:=G0.1 cl i (aum n);exact Nat.le_of_ble_eq_true this
 unfold Region.schedule;rw[cc,Bool.true_or,if_pos rfl];refine uu (ops:=l.toArray) he (λD e s h=>(∀i,i<l.length->D i=J->∀j∈jR l i,j<l.length->D j=J)/\s=aP/\∃c,c<=f.length/\(∀k i,f[k]? =C i->(D i=J↔k<c))/\w c h/\(∀a,l.all (λu=>u.dst != C a)=J->e a=e0 a)/\(∀(i a:Nat),i<l.length->D i=J->(l[i]?).bind (·.dst)=C a->F c i (e a) h)/\(∀(i a:Nat),i<l.length->D i=q9->(l[i]?).bind (·.dst)=C a->e a=e0 a))
  (λD D' e s h K q=> ?_) (λD e s h i o q hi a7 ho bp=> ?_) (λD e s h q a8=> ?_) ⟨λi _ q=>(W3 q).elim,rfl,0,U,λk i _=>⟨λq=>(W3 q).elim,λq=>by omega⟩,cp,λ_ _=>rfl,λi _ _ q=>(W3 q).elim,λ_ _ _ _ _=>rfl⟩ t
 .rw[hz]at K;obtain⟨Q,S,c,q2,r,z,L,E,W⟩:=q;exact⟨λi hi hd j p y=>by rw[<- K j y];exact Q i hi (by rw[K i hi];exact hd) j p y,S,c,q2,λk i n=>by rw[<- K i (a6 n)];exact r k i n,z,L,λi a hi hd g=>E i a hi (by rw[K i hi];exact hd) g,λi a hi hd g=>W i a hi (by rw[K i hi];exact hd) g⟩
 .rw[hz]at hi;have M:l[i]? =C o:=by simpa using ho
  have hg:=uD bm M;have hw:Region.wanted o (jV l.toArray e)=J:=by simp[Region.wanted,hg]
  rw[if_pos hw];obtain⟨Q,S,c,q2,r,z,L,E,W⟩:=q;subst S;have ba:∀j∈jR l i,D j=J:=λj p=>by unfold jR at p;rw[M]at p;obtain⟨x,A,rfl⟩:=List.mem_map.1 p;rw[List.mem_filter]at A;exact bp x (by simpa using A.1) A.2
  have bs:∀j,j<l.length->(jR l j).contains i=J->D j=q9:=λj y p=>by
   cases ds:D j with
   |false=>rfl
   |true=>have:=Q j y ds i (by simpa using p) hi;rw[a7]at this;cases this
  have bt:∀j,j<l.length->(if j=i then J else D j)=J->∀G∈jR l j,G<l.length->(if G=i then J else D G)=J:=λj y p G b0 dt=>by
   by_cases m:G=i
   .rw[if_pos m]
   .rw[if_neg m];by_cases B:j=i
    .subst B;exact ba G b0
    .rw[if_neg B]at p;exact Q j y p G b0 dt
  have b3:f.contains i=J->f[c]? =C i:=λdx=>by
   obtain⟨k,n⟩:=List.mem_iff_getElem?.1 (show i∈f by simpa using dx);have h1:¬k<c:=λq=>by rw[(r k i n).2 q]at a7;cases a7
   rcases vy c k with h2|h2
   .have dA:=(F1.1 n).1;have:=G0.1 ck k (List.mem_range.2 dA);rw[Bool.or_eq_true]at this;rcases this with q|q
    .have:=Nat.eq_of_beq_eq_true q;omega
    .have m:f.getD k 0=i:=by simp[List.getD,n]
     rw[m]at q;have b4:f[k- 1]? =C f[k- 1]:=Q4 U;have B:f.getD (k- 1) 0=f[k- 1]:=by simp[List.getD,b4]
     rw[B]at q;have:=ba _ (by simpa using q);have:=(r _ _ b4).1 this;omega
   .rw[(U:c=k)];exact n
  refine vR (λe' d' s' h' ⟨r1,v,r2,r3,r4⟩=> ?_) (pz (step i o M c e h z b3 (λk j n hc=>(r k j n).1 (ba j (by simpa using hc))) (λk j n hc=> ?_) L (λj a A p=> ?_) λj a A p=> ?_))
  rotate_left 3
  .subst r2;have b5:∀a,l.all (λu=>u.dst != C a)=J->b7 e o.dst v a=e0 a:=λa g=>by
    rw[<- L a g];have:=G0.1 g o (aum M);cases bb:o.dst with
    |none=>rfl
    |some cU=>rw[eU,aL,if_neg (λe=>by rw[bb,e]at this;simp at this)]
   have bd:∀{j a:Nat},j≠i->(l[j]?).bind (·.dst)=C a->b7 e o.dst v a=e a:=λ{j a} m g=>by
    cases bb:o.dst with
    |none=>rfl
    |some cU=>rw[eU,aL,if_neg];intro B;obtain⟨o2,H,ag⟩:=auK.1 g;exact m (ed H M ag (by rw[bb,B]))
   have b6:∀(j a:Nat),j<l.length->(if j=i then J else D j)=q9->(l[j]?).bind (·.dst)=C a->b7 e o.dst v a=e0 a:=λj a p hd g=>by
    by_cases m:j=i
    .rw[if_pos m]at hd;cases hd
    .rw[if_neg m]at hd;rw[bd m g];exact W j a p hd g
   have self:∀{a:Nat},(l[i]?).bind (·.dst)=C a->b7 e o.dst v a=v:=λ{a} g=>by rw[M]at g;have g:o.dst=C a:=g;rw[g,eU,aL,if_pos rfl]
   cases I:f.contains i with
   |true=>
    rw[I,if_pos rfl]at r4;have bh:=b3 I;obtain⟨X,z2⟩:=r4;have eh:=(F1.1 bh).1;refine⟨r1,bt,r3,c+1,U,λk j n=> ?_,R0 _ _ _ _ z X,b5,λj a p hd g=> ?_,b6⟩
    .show(if j=i then J else D j)=J↔_;by_cases m:j=i
     .subst m;have:k=c:=by obtain⟨h1,m⟩:=F1.1 n;obtain⟨h2,B⟩:=F1.1 bh;exact(List.getElem_inj eb).1 (m.trans B.symm)
      rw[if_pos rfl];exact⟨λ_=>by omega,λ_=>rfl⟩
     .rw[if_neg m,r k j n];refine⟨λq=>by omega,λq=> ?_⟩;rcases vy k c with h1|h1
      .exact h1
      .have:k=c:=U
       subst this;rw[bh]at n;cases n;exact(m rfl).elim
    .have hd:(if j=i then J else D j)=J:=hd;by_cases m:j=i
     .subst m;rw[self g];exact z2
     .rw[if_neg m]at hd;rw[bd m g];exact FR _ _ _ e _ _ z X (λcU h2=>by rw[g]at h2;cases h2;rfl) (E j a p hd g)
   |false=>
    rw[I,if_neg aty]at r4;obtain⟨X,z2⟩:=r4;refine⟨r1,bt,r3,c,q2,λk j n=> ?_,cm _ _ _ X z,b5,λj a p hd g=> ?_,b6⟩
    .show(if j=i then J else D j)=J↔_;have m:j≠i:=λm=>by
      have:f.contains i=J:=by rw[<- m];simpa using aum n
      rw[I]at this;cases this
     rw[if_neg m];exact r k j n
    .have hd:(if j=i then J else D j)=J:=hd;by_cases m:j=i
     .subst m;rw[self g];exact z2
     .rw[if_neg m]at hd;rw[bd m g];exact Fm _ _ _ _ _ X (E j a p hd g)
  .rcases vy k c with h1|h1
   .have:=(r k j n).2 h1;rw[bs j (a6 n) hc]at this;cases this
   .exact h1
  .obtain⟨o2,H,ag⟩:=auK.1 p;have y:=(F1.1 H).1;exact W j a y (bs j y A) p
  .rw[List.any_eq_true]at A;obtain⟨x,dS,hb⟩:=A;simp only[Bool.and_eq_true,beq_iff_eq]at hb;have hD:=bp x (by simpa using dS) hb.2;rw[hb.1]at hD;obtain⟨o2,H,ag⟩:=auK.1 p;exact E j a (F1.1 H).1 hD p
 .rw[hz]at a8;obtain⟨Q,S,c,q2,r,z,L,E,W⟩:=q;subst S;have hc:c=f.length:=by
   rcases vy c f.length with h1|h1
   .have n:f[c]? =C f[c]:=Q4 h1;have:=(r c _ n).1 (a8 _ (a6 n));omega
   .omega
  subst hc;exact ec e h z L λi a g=>by obtain⟨o2,H,ag⟩:=auK.1 g;have I:=(F1.1 H).1;exact E i a I (a8 i I) g
end
end
end Go.Nk
