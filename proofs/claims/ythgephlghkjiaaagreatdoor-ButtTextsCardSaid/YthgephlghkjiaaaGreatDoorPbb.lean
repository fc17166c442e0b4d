/- Part Pbb of the proof of ButtTexts: lemmas. -/
import Derived.Test.YthgephlghkjiaaaGreatDoorPba
set_option maxRecDepth 100000
set_option maxHeartbeats 4000000
set_option linter.all false
namespace Go.Nk
noncomputable section
open Go Go.Conc Go.Proofs
open Bool renaming true->J,false->q9,and_eq_true->vh
open Go renaming Value->o5,Operand->su
open Go.Proofs.Tryz renaming prog->pv,results11->aCM,underlying87->aw8,results110->aCN,underlying98->au4,results40->aCO,results9->aAW
open List renaming length_map->atJ,mem_map->aui,mem_cons->B4,not_mem_nil->auo,getElem_mem->N0,flatMap_map->aAV,take_add_one->atC,map_append->auu,take_length->N3,length_append->M3,length_cons->RF,length_nil->auM,append_assoc->auN,drop_of_length_le->av5
open Nat renaming lt_or_ge->vy
open Ne renaming symm->zz
open Option renaming none->o0,some->C,isSome_iff_exists->aud
def aqL{n:jE}{k:Int}(h0:0<=k)(a:k<=6):zg ((jP n:Int)- 1) (k- 1)=jF n k:=by
 have:k=0\/k=1\/k=2\/k=3\/k=4\/k=5\/k=6:=U
 rcases this with rfl|rfl|rfl|rfl|rfl|rfl|rfl<;>cases n<;>rfl
section
variable{main:Bool}{ai:Type}{S:Sys ai}{s:ai}{h:ae}
def aqM:bz pv 11=J:=O
def aqN{i:Int}[K:KK o5]:al pv (Instr.build 109 #[(2,.int .i64 i)]) h=K.f (qc (.slice o0 0 0) (.slice o0 0 0) 0 0 (.slice o0 0 0) (.slice o0 0 0) i) h:=O
def zh:dL:=⟨.cells #[.slice o0 0 0,.slice o0 0 0,.int .i64 0,.int .i64 0] 25 (0,0),J⟩
def zi:dL:=⟨.cells #[.slice o0 0 0,.slice o0 0 0] 29 (0,0),J⟩
def Bp:dL:=⟨.cells #[.slice o0 0 0,.slice o0 0 0,.int .i64 0,.int .i64 0,.slice o0 0 0,.slice o0 0 0,.int .i64 0] 109 (0,0),J⟩
def aqO{t:List UInt8}:(oK t).length<=t.length/\∀l∈oK t,l.length<=t.length:=by
 refine⟨?_,λl b=> ?_⟩
 .unfold oK;rw[atJ]
  induction t with
  |nil=>simp[fG]
  |cons x l a=>
   rw[fG];split
   .simpa using a
   .split
    .simp
    .rename_i p bc c;rw[c]at a;simp at a ⊢;omega
 .obtain⟨p,d,rfl⟩:=aui.1 b;have:=Bn d;unfold oJ;split
  .simp;omega
  .exact this
structure W8(h h5 aa:ae)(B:List Nat)(c2 c3 cG:Nat)(a:Acc)(i:Nat)(M:List Nat)(aW sv bT bV:o5):Prop where
 sl:(∃a n c,aW=.slice a n c)/\(∃a n c,sv=.slice a n c)/\(∃a n c,bT=.slice a n c)/\∃a n c,bV=.slice a n c
 q:fr h aa B M aW sv bT bV a.b a.g
 f:jS h5 B [] aa M
 fit:a.Fit i
 g2:aa c2=C zh
 g3:aa c3=C zi
 g7:aa cG=C (fY aW sv a.b.cW a.b.cS bT bV (a.last- 1))
structure od(h h5 aa:ae)(B:List Nat)(a:Acc)(l:List UInt8)(hh:ae)(aW sv bT bV:o5)(cv:List Nat)(b:bY)(g:Ground)(r:Int):Prop where
 sl:(∃a n c,aW=.slice a n c)/\(∃a n c,sv=.slice a n c)/\(∃a n c,bT=.slice a n c)/\∃a n c,bV=.slice a n c
 q:fr h hh B cv aW sv bT bV b g
 f:jS h5 B [] hh cv
 k:∀d∈B,hh d=aa d
 jL:(iO l=o0/\r= -1)\/∃n,iO l=C n/\r=(jP n:Int)- 1/\b=(a.step n).b/\g=(a.step n).g
def od.r{h d f:ae}{B:List Nat}{a:Acc}{l:List UInt8}{hh:ae}{aW sv bT bV:o5}{i:List Nat}{b:bY}{g:Ground}{r:Int}(q:od h d f B a l hh aW sv bT bV i b g r):r=tI l:=by unfold tI;rcases q.jL with⟨e,c⟩|⟨n,e,c,_⟩<;>rw[e,c]
def od.up{h e c:ae}{B:List Nat}{a:Acc}{l:List UInt8}{hh i:ae}{aW sv bT bV:o5}{j:List Nat}{b:bY}{g:Ground}{r:Int}(n:∀d∈B,∃z,c d=C z)(le:hh.ar i)(q:od h e c B a l hh aW sv bT bV j b g r):od h e c B a l i aW sv bT bV j b g r:=⟨q.sl,q.q.le le,q.f.le le,λd hd=>by obtain⟨z,m⟩:=n d hd;have:=q.k d hd;rw[m]at this ⊢;exact le _ _ this,q.jL⟩
def od.put{h i n:ae}{B:List Nat}{a:Acc}{l:List UInt8}{hh:ae}{aW sv bT bV:o5}{o:List Nat}{b:bY}{g:Ground}{r:Int}{c:Nat}{z:dL}(hc:i c=o0)(p:∀d∈B,∃z,i d=C z)(j:∃arr f w,hh c=C ⟨.cells arr 109 f,w⟩)(q:od h i n B a l hh aW sv bT bV o b g r):od h i n B a l (hh.put c z) aW sv bT bV o b g r:=by obtain⟨arr,f,w,j⟩:=j;exact⟨q.sl,q.q.ty j,q.f.put hc,λd hd=>by obtain⟨y,m⟩:=p d hd;rw[bx (λe=>by subst e;rw[hc]at m;cases m)];exact q.k d hd,q.jL⟩
abbrev wQ(h c d:ae)(B:List Nat)(a:Acc)(l:List UInt8)(hh:ae)(v:o5):Prop:=∃aW sv bT bV e b g r,v=.tuple #[qc aW sv b.cW b.cS bT bV (a.last- 1),.int .i64 r]/\od h c d B a l hh aW sv bT bV e b g r
def aqP{txt:List UInt8}(ht:txt.length<=2000):bo pv main S 11 #[au txt] s h λs' h' z=>s'=s/\h.ar h'/\∃dR gv hF,z=.tuple #[dR,gv,.int .i64 (ia txt).2.2.1,.int .i64 (ia txt).2.2.2]/\hF.ar h'/\(∀d,(h d).isSome=J->hF d=o0)/\k7 hF dR (ia txt).1/\kL hF gv (ia txt).2.1:=by
 refine bL (args:=[au txt]) Tryz.func11 (by delta Tryz.f11;rfl) Tryz.ntmps11 Y O ?_;simp only[ah,seval];intro c2 h2 hG e2 c3 h3 gi e3;have hH:=bU hG e2;have hJ:=bU gi e3;have g2:=hJ _ _ (bw e2);have g3:=bw e3;have f3:h c3=o0:=fh hH gi;have dA:c3≠c2:=λe=>by rw[e,bw e2]at gi;cases gi
 clear e2 e3;simp only[ah,seval,eH,decide_eq_false (U:¬((txt.length:Nat):Int)>60000)];refine cd apf (api U) λs4 h4 z ⟨D,gj,⟨bS,o4,cl,ez⟩,ql⟩=> ?_;subst D;subst ez;rw[WB]at ql;change fW h4 _ (oK txt)at ql;obtain⟨lS,kl⟩:=aqO (t:=txt);have km:mP txt=pZ uY 0 (oK txt):=rfl;generalize px:oK txt=L at ql lS kl km;have lT:o4=L.length:=by obtain⟨b9,o9,n9,dk,e9,l2,_⟩:=ql;cases e9;simpa using l2.symm
 subst lT;simp only[ah,seval,aqN,qc,eQ];intro cG h6 hM e7;have kn:=bU hM e7;have g7:=bw e7;simp only[ah,seval,g7,eQ];intro h5 e5;have g7:=bw e5;have f7:h cG=o0:=fh (hH.ay (hJ.ay gj)) hM;have gp:h4.ar h5:=dM kn hM e5;have g2:=gp _ _ (gj _ _ g2);have g3:=gp _ _ (gj _ _ g3);have gy:h.ar h5:=hH.ay (hJ.ay (gj.ay gp));have l3:=dE.le gp ql;clear e7 e5 kn;let B:=[cG,c3,c2];have l4:B=[cG,c3,c2]:=rfl;have gI:∀d∈B,h d=o0:=λd hd=>by
  simp only[B,B4,auo,or_false]at hd;rcases hd with rfl|rfl|rfl
  .exact f7
  .exact f3
  .exact hG
 have kr:∀d∈B,∃z,h5 d=C z:=λd hd=>by
  simp only[B,B4,auo,or_false]at hd;rcases hd with rfl|rfl|rfl
  .exact⟨_,g7⟩
  .exact⟨_,g3⟩
  .exact⟨_,g2⟩
 have m7:cG∈B:=by simp[B]
 have m3:c3∈B:=by simp[B]
 have m2:c2∈B:=by simp[B]
 have hN:cG≠c2:=λe=>by rw[e,g2]at g7;cases g7
 have kE:cG≠c3:=λe=>by rw[e,g3]at g7;cases g7
 have R0:W8 h h5 h5 B c2 c3 cG uY 0 B (.slice o0 0 0) (.slice o0 0 0) (.slice o0 0 0) (.slice o0 0 0):=⟨⟨⟨_,_,_,rfl⟩,⟨_,_,_,rfl⟩,⟨_,_,_,rfl⟩,_,_,_,rfl⟩,fr.start kr,jS.cO (λd hd=>by cases hd),Acc.Fit.zero,g2,g3,g7⟩
 clear_value B
 have fx:∀(e:Env) (u G:ae) (M:List Nat) (aW sv bT bV:o5) (b:bY) (g:Ground) (n f:Int),fr h u B M aW sv bT bV b g->jS h5 B [] u M->u c2=C zh->u c3=C zi->G=(u.put c2 zh).put c3 zi->ia txt=(ob,pj,n,f)->e 2=aV c2 0->e 3=aV c3 0->e 4=.int .i64 n->e 5=.int .i64 f->dT pv Tryz.f11 (λs' h' z=>s'=s4/\h.ar h'/\∃dR gv hF,z=.tuple #[dR,gv,.int .i64 (ia txt).2.2.1,.int .i64 (ia txt).2.2.2]/\hF.ar h'/\(∀d,(h d).isSome=J->hF d=o0)/\k7 hF dR (ia txt).1/\kL hF gv (ia txt).2.1) 77 e [] s4 G:=by
  intro e u G M aW sv bT bV b g n f Q F x2 x3 X ep y2 y3 y4 y5;have X:G=u:=by rw[X,lN x2,lN x3]
  subst X;refine F0 aCM Y Y Y Y (pa:=c2) (pb:=c3) y2 y3 (ni O x2 rfl) (ni O x3 rfl) ⟨rfl,λd z hd=>F.out d z (λN=>by rw[gI d N]at hd;cases hd) (gy _ _ hd),_,_,ae.empty,by rw[y4,y5,ep],λb x e=>(by cases e),λd _=>rfl,?_,?_⟩
  .rw[ep];exact⟨_,_,rfl,⟨[],⟨o0,0,0,0,rfl,rfl,.inl rfl⟩,rfl,Y⟩,[],⟨o0,0,0,0,rfl,rfl,.inl rfl⟩,rfl,Y⟩
  .rw[ep];exact⟨_,_,rfl,⟨o0,0,0,0,rfl,rfl,.inl rfl⟩,o0,0,0,0,rfl,rfl,.inl rfl⟩
 refine du (I:=λk e d sx u=>∃i a M aW sv bT bV,k=L.length- i/\i<=L.length/\e 2=aV c2 0/\e 3=aV c3 0/\e 6=.slice bS L.length cl/\e 7=aV cG 0/\e 8=.int .i64 (i:Nat)/\d=[]/\sx=s4/\mP txt=pZ a i (L.drop i)/\W8 h h5 u B c2 c3 cG a i M aW sv bT bV) (λk e d sx u hI=> ?_) (m:=L.length) ⟨0,uY,B,_,_,_,_,Y,Y,atA,atA,atA,atA,atA,rfl,rfl,km,R0⟩;obtain⟨i,a,M,aW,sv,bT,bV,rfl,hi,e2,e3,e6,e7,e8,rfl,rfl,e0,R⟩:=hI;obtain⟨⟨⟨a1,bK,k1,rfl⟩,⟨a2,bR,k2,rfl⟩,⟨a3,cQ,W,rfl⟩,a4,n4,k4,rfl⟩,Q,F,fit,x2,x3,x7⟩:=id R;rcases vy i L.length with hc|hc
 .obtain⟨bM,o1,qb,c1,mL,qf,mS⟩:=id l3;cases mL;obtain⟨mb,rfl,arr,tq,tf,tw,dS,mT⟩:=mS.resolve_left U;have hR:arr[o1+i]? =C (.string ⟨⟨L[i]⟩⟩):=by simpa using mT i [au L[i]] (by simp[hc]) 0 _ rfl
  have hd:L.drop i=L[i]::L.drop (i+1):=List.drop_eq_getElem_cons hc;have mX:=kl _ (N0 hc);generalize L[i]=l at hR hd mX;have m0:mb∉B:=λN=>by
   have u:=Array.mem_of_getElem? hR;rw[l4]at N;simp only[B4,auo,or_false]at N;rcases N with rfl|rfl|rfl
   .rw[g7]at dS;cases dS;simp at u
   .rw[g3]at dS;cases dS;simp at u
   .rw[g2]at dS;cases dS;simp at u
  have m4:=F.out mb _ m0 dS;have k0:decide ((i:Int)<L.length)=J:=atB
  have kI:a.b.b2.length<=90000/\a.b.cf.length<=90000/\a.g.db.length<=90000/\a.g.c7.length<=90000:=by have:=fit.nl;have:=fit.ns;have:=fit.xk;have:=fit.wF;omega
  have m5:∀d,(h5 d).isSome=J->(u d).isSome=J:=λd hd=>by
   by_cases N:d∈B
   .obtain⟨z,E⟩:=Q.cH d N;rw[E];rfl
   .obtain⟨z,E⟩:=aud.1 hd;rw[F.out d z N E];rfl
  have hS:h.ar u:=λd z hd=>F.out d z (λN=>by rw[gI d N]at hd;cases hd) (gy _ _ hd);have k5:∀{j bd:ae},j.ar bd->(∀d,(h5 d).isSome=J->(j d).isSome=J)->∀d,(h5 d).isSome=J->(bd d).isSome=J:=λ{j bd} le q d hd=>by obtain⟨z,E⟩:=aud.1 (q d hd);rw[le _ _ E];rfl
  have nb:∀{j:ae} {d:Nat},(∀d,(h5 d).isSome=J->(j d).isSome=J)->j d=o0->h5 d=o0:=λ{j d} q e=>by
   cases nf:h5 d with
   |none=>rfl
   |some z=>have:=q d (by rw[nf];rfl);rw[e]at this;cases this
  have ea:=x7;unfold fY at ea;simp only[ah,seval,e6,e8,k0,fI];intro t;refine aqK (h0:=u) O O eR [5,10] O O aty (λc i' v j=>match i' with
   | 0=>v=qc (.slice a1 bK k1) (.slice a2 bR k2) a.b.cW a.b.cS (.slice a3 cQ W) (.slice a4 n4 k4) (a.last- 1)
   | 1=>v=.slice (C ⟨mb,o1,o0⟩) L.length cl
   | 2=>v=.int .i64 (i:Nat)
   | 3=>v=aV mb (o1+i)
   | 4=>v=.string ⟨⟨l⟩⟩
   | 5=>1<=c/\wQ h h5 u B a l j v
   | 6=>1<=c/\wQ h h5 u B a l j v
   | 7=>1<=c/\∃r,wQ h h5 u B a l j (.tuple #[v,.int .i64 r])
   | 8=>v=.int .i64 (tI l)
   | 9=>∃dk,v=aV dk 0/\h5 dk=o0/\(match c with
    | 0=>u dk=o0/\j dk=C Bp
    | 1=>j dk=C Bp
    |_=>∃aW sv bT bV A b g r,j dk=C (fY aW sv b.cW b.cS bT bV (a.last- 1))/\od h h5 u B a l j aW sv bT bV A b g r)
   | 11=>v=.int .i64 (tI l)
   |_=>True) (λc i' v j bd le q=> ?_) (λc j=>match c with
   | 0=>u.ar j
   |_=>∀d,(h5 d).isSome=J->(j d).isSome=J) (λc j bd le q=> ?_) (λ_ _ e=>e)
   (λc e j bd=>match c with
   | 0=>(∀c x,u c=o0->j c=C x->bd c=C x)/\∀d,(h5 d).isSome=J->(bd d).isSome=J
   | 1=>∃dk aW sv bT bV A b g r,e 9=aV dk 0/\j dk=C Bp/\h5 dk=o0/\bd=j.put dk (fY aW sv b.cW b.cS bT bV (a.last- 1))/\od h h5 u B a l j aW sv bT bV A b g r
   |_=>False) (λc e j bd q r=> ?_) (λc i' v e j bd q r hv f=> ?_) ?_ ?_ t
  .match i',q with
   | 0,q=>exact q
   | 1,q=>exact q
   | 2,q=>exact q
   | 3,q=>exact q
   | 4,q=>exact q
   | 5,⟨D,_,_,_,_,_,_,_,_,q2,p⟩=>exact⟨D,_,_,_,_,_,_,_,_,q2,p.up Q.cH le⟩
   | 6,⟨D,_,_,_,_,_,_,_,_,q2,p⟩=>exact⟨D,_,_,_,_,_,_,_,_,q2,p.up Q.cH le⟩
   | 7,⟨D,_,_,_,_,_,_,_,_,_,q2,p⟩=>exact⟨D,_,_,_,_,_,_,_,_,_,q2,p.up Q.cH le⟩
   | 8,q=>exact q
   | 9,⟨dk,D,q2,p⟩=>
    refine⟨dk,D,q2,?_⟩
    match c,p with
    | 0,p=>exact⟨p.1,le _ _ p.2⟩
    | 1,p=>exact le _ _ p
    |c+2,⟨_,_,_,_,_,_,_,_,q4,q5⟩=>exact⟨_,_,_,_,_,_,_,_,le _ _ q4,q5.up Q.cH le⟩
   | 10,_=>trivial
   | 11,q=>exact q
   |n+12,_=>trivial
  .match c,q with
   | 0,q=>exact ae.ar.ay q le
   |c+1,q=>exact k5 le q
  .match c,q,r with
   | 0,q,r=>exact r.2
   | 1,q,⟨dk,_,_,_,_,_,_,_,_,_,z1,z2,eZ,nM⟩=>
    intro d hd;rw[eZ];by_cases e1:d=dk
    .subst e1;rw[cI];rfl
    .rw[bx e1];exact q d hd
   |c+2,_,r=>exact r.elim
  .have tq:∀{aW sv bT bV:o5} {A:List Nat} {b:bY} {g:Ground} {P:Int},c=1->od h h5 u B a l j aW sv bT bV A b g P->od h h5 u B a l bd aW sv bT bV A b g P:=λ{aW sv bT bV A b g P} hc q5=>by subst hc;obtain⟨dk,_,_,_,_,_,_,_,_,_,z1,z2,eZ,nM⟩:=r;rw[eZ];exact q5.put z2 kr ⟨_,_,_,z1⟩
   match i',f with
   | 0,f=>exact f
   | 1,f=>exact f
   | 2,f=>exact f
   | 3,f=>exact f
   | 4,f=>exact f
   | 5,⟨D,hx,bh,bk,bl,A,bG,g',P,q2,p⟩=>
    match c,q,r with
    | 1,q,r=>exact⟨U,_,_,_,_,_,_,_,_,q2,tq rfl p⟩
    |c+2,_,r=>exact r.elim
   | 6,⟨D,_,_,_,_,_,_,_,_,q2,p⟩=>
    match c,q,r with
    | 1,q,r=>exact⟨U,_,_,_,_,_,_,_,_,q2,tq rfl p⟩
    |c+2,_,r=>exact r.elim
   | 7,⟨D,P,_,_,_,_,_,_,_,_,q2,p⟩=>
    match c,q,r with
    | 1,q,r=>exact⟨U,P,_,_,_,_,_,_,_,_,q2,tq rfl p⟩
    |c+2,_,r=>exact r.elim
   | 8,f=>exact f
   | 9,⟨dk,D,q2,p⟩=>
    refine⟨dk,D,q2,?_⟩
    match c,q,r,p with
    | 0,q,r,p=>exact r.1 _ _ p.1 p.2
    | 1,q,r,p=>obtain⟨qk,hx,bh,bk,bl,A,bG,g',P,z0,z1,z2,eZ,nM⟩:=id r;have e9:=hv 9 rfl;rw[D,z0]at e9;cases e9;exact⟨hx,bh,bk,bl,A,bG,g',P,by rw[eZ,cI],tq rfl nM⟩
    |c+2,_,r,_=>exact r.elim
   | 10,_=>trivial
   | 11,f=>exact f
   |n+12,_=>trivial
  .intro i' o w c e j H lo pl hV un qq af;have u7:e 7=aV cG 0:=(un 7 rfl).trans (by simp[ak,e7]);have u6:e 6=.slice (C ⟨mb,o1,o0⟩) L.length cl:=(un 6 rfl).trans (by simp[ak,e6]);have u8:e 8=.int .i64 (i:Nat):=(un 8 rfl).trans (by simp[ak,e8])
   match i',w with
   | 0,w=>
    cases w;have ec:c=0:=by have:=hV 0 5 rfl rfl;omega
    subst ec;have gx:=H _ _ ea;simp only[ah,seval,u7,gx,eQ];exact⟨_,rfl,.cO _,rfl⟩
   | 1,w=>cases w;simp only[ah,seval,u6];exact⟨_,rfl,.cO _,rfl⟩
   | 2,w=>cases w;simp only[ah,seval,u8];exact⟨_,rfl,.cO _,rfl⟩
   | 3,w=>cases w;have p1:e 29=_:=af 1 29 rfl rfl;have p2:e 30=_:=af 2 30 rfl rfl;simp only[ah,seval,p1,p2,k0];exact⟨_,rfl,.cO _,rfl⟩
   | 4,w=>
    cases w;have ec:c=0:=by have:=hV 0 5 rfl rfl;omega
    subst ec;have gx:=H _ _ m4;have p3:e 31=_:=af 3 31 rfl rfl;simp only[ah,seval,p3,gx,hR];exact⟨_,rfl,.cO _,rfl⟩
   | 5,w=>
    cases w;have ec:c=0:=by
     have:=lo rfl
     match c,this with
     | 0,_=>rfl
     | 1,q=>cases q
     |n+2,q=>cases q
    subst ec;have p0:e 28=_:=af 0 28 rfl rfl;have p4:e 32=_:=af 4 32 rfl rfl;simp only[ah,seval,p0,p4,qc];refine cd ap6 (ap7 (l:=l) U (Q.le H) (hS.ay H) ⟨⟨_,_,_,rfl⟩,⟨_,_,_,rfl⟩,⟨_,_,_,rfl⟩,_,_,_,rfl⟩ kI) λs' h' z ⟨D,hx,bh,bk,bl,A,bG,g',P,ez,k1,k2,W,k4⟩=> ?_;subst D;have kk:od h h5 u B a l h' hx bh bk bl A bG g' P:=⟨k1,k2,F.app (B':=B) (λd hd=>by cases hd) (λd z hd E=>W.out d z hd (H _ _ E)) (λd hd=>(W.cZ d hd).imp id λe=>fh H e) (λd hd=>by
     obtain⟨z,E⟩:=Q.cH d hd;rw[W.eC d hd,H _ _ E,E]),λd hd=>by
     obtain⟨z,E⟩:=Q.cH d hd;rw[W.eC d hd,H _ _ E,E],k4⟩
    refine⟨rfl,_,rfl,rfl,⟨λc x hc nz=>W.out c x (λN=>by obtain⟨z,E⟩:=Q.lt c N;rw[hc]at E;cases E) nz,λd hd=> ?_⟩,hx,bh,bk,bl,A,bG,g',P,ez,kk⟩;obtain⟨z,E⟩:=aud.1 hd;by_cases N:d∈B
    .obtain⟨y,hy⟩:=Q.cH d N;rw[kk.k d N,hy];rfl
    .rw[kk.f.out d z N E];rfl
   | 6,w=>cases w;obtain⟨eh,hx,bh,bk,bl,A,bG,g',P,p5,p⟩:1<=c/\wQ h h5 u B a l j (e 33):=af 5 33 rfl rfl;simp only[ah,seval,p5];exact⟨_,rfl,.cO _,eh,_,_,_,_,_,_,_,_,rfl,p⟩
   | 7,w=>cases w;obtain⟨eh,hx,bh,bk,bl,A,bG,g',P,p6,p⟩:1<=c/\wQ h h5 u B a l j (e 27):=af 6 27 rfl rfl;simp only[ah,seval,p6,dg];exact⟨_,rfl,.cO _,eh,P,_,_,_,_,_,_,_,_,rfl,p⟩
   | 8,w=>cases w;obtain⟨eh,hx,bh,bk,bl,A,bG,g',P,p6,p⟩:1<=c/\wQ h h5 u B a l j (e 27):=af 6 27 rfl rfl;simp only[ah,seval,p6,dg];exact⟨_,rfl,.cO _,by rw[p.r]⟩
   | 9,w=>
    cases w;have eh:c<=1:=hV 1 10 rfl rfl;have nG:∀d,(h5 d).isSome=J->(j d).isSome=J:=by
     match c,H with
     | 0,H=>exact k5 H m5
     |c+1,H=>exact H
    simp only[ah,seval,eQ];intro dk h9 h7 e9;refine⟨_,rfl,bU h7 e9,dk,rfl,nb nG h7,?_⟩
    match c,eh,H with
    | 0,_,H=>exact⟨fh H h7,bw e9⟩
    | 1,_,_=>exact bw e9
   | 10,w=>
    cases w;have ec:c=1:=by
     have:=lo rfl
     match c,this with
     | 0,q=>cases q
     | 1,_=>rfl
     |n+2,q=>cases q
    subst ec;obtain⟨dk,p9,f9,gz⟩:∃dk,e 9=aV dk 0/\h5 dk=o0/\j dk=C Bp:=af 9 9 rfl rfl;obtain⟨_,P,hx,bh,bk,bl,A,bG,g',r2,p7,p⟩:1<=1/\∃r,wQ h h5 u B a l j (.tuple #[e 34,.int .i64 r]):=af 7 34 rfl rfl;obtain⟨⟨y1,y2,y3,rfl⟩,⟨y4,y5,y6,rfl⟩,⟨y7,y8,y9,rfl⟩,n8,oa,og,rfl⟩:=id p.sl;have p7:e 34=qc (.slice y1 y2 y3) (.slice y4 y5 y6) bG.cW bG.cS (.slice y7 y8 y9) (.slice n8 oa og) (a.last- 1):=by have:=congrArg (λv=>match v with|.tuple xs=>xs[0]? |_=>o0) p7;simpa using this
    have k8:=gz;unfold Bp at k8;simp only[ah,seval,p9,p7,qc,k8,eQ];intro h1 e1;exact⟨undef,⟨dk,_,_,_,_,A,bG,g',r2,rfl,gz,f9,e1,p⟩,trivial⟩
   | 11,w=>cases w;have p8:e 35=_:=af 8 35 rfl rfl;simp only[ah,seval,p8];exact⟨_,rfl,.cO _,rfl⟩
   |n+12,w=>simp at w
  .intro e j H un af;have u2:e 2=aV c2 0:=(un 2 rfl).trans (by simp[ak,e2]);have u3:e 3=aV c3 0:=(un 3 rfl).trans (by simp[ak,e3]);have u6:e 6=.slice (C ⟨mb,o1,o0⟩) L.length cl:=(un 6 rfl).trans (by simp[ak,e6]);have u7:e 7=aV cG 0:=(un 7 rfl).trans (by simp[ak,e7]);have u8:e 8=.int .i64 (i:Nat):=(un 8 rfl).trans (by simp[ak,e8]);have fg:e 10=.int .i64 (tI l):=af 11 10 rfl;obtain⟨dk,u9,f9,hx,bh,bk,bl,A,bG,g',P,G9,bm⟩:∃dk,e 9=aV dk 0/\h5 dk=o0/\∃aW sv bT bV A b g r,j dk=C (fY aW sv b.cW b.cS bT bV (a.last- 1))/\od h h5 u B a l j aW sv bT bV A b g r:=af 9 9 rfl;have y2:=(bm.k c2 m2).trans x2;have y3:=(bm.k c3 m3).trans x3;have y7:=(bm.k cG m7).trans x7;have b6:=y2;have b8:=y3;have ek:=y7;unfold zh at b6;unfold zi at b8;unfold fY at ek G9;clear un af H;have k9:mP txt=.inl (i+1)->ia txt=(ob,pj,((i+1:Nat):Int),3):=λq=>WM q;have w1:IntKind.i64.wrap ((i:Int)+1)=((i+1:Nat):Int):=by rw[cq U U];omega
   have oj:dk≠cG:=λe=>by rw[e,g7]at f9;cases f9
   have om:dk≠c2:=λe=>by rw[e,g2]at f9;cases f9
   have oo:dk≠c3:=λe=>by rw[e,g3]at f9;cases f9
   rcases bm.jL with⟨hl,hr⟩|⟨n,hl,hr,hb,hg⟩
   .have er:tI l= -1:=by unfold tI;rw[hl]
    rw[er]at fg;simp only[ah,seval,fg,qZ,rb,u2,u3,u8,w1,b6];intro aI K;have eZ:aI c3=_:=(by rw[K];exact bx dA:aI c3=j c3).trans b8;simp only[ah,seval,eZ];intro G X;exact fx _ j G A hx bh bk bl bG g' _ _ bm.q bm.f y2 y3 (by rw[X,K];rfl) (k9 (by rw[e0,hd];exact WH hl)) (by simp[ak,u2]) (by simp[ak,u3]) (by simp[ak];simpa using w1) atA
   .have er:tI l=(jP n:Int)- 1:=by unfold tI;rw[hl]
    have qs:1<=jP n/\jP n<=6:=by cases n<;>simp[jP]
    rw[er]at fg;simp only[ah,seval,fg,u7,ek,eQ,decide_eq_false (U:¬((jP n:Int)- 1<0))];refine ev ap2 (ap4 _ _ _ _) ?_;rw[aqL fit.la.1 fit.la.2];cases jl:jF n a.last with
    |false=>simp only[ah,seval,qZ,rb,u2,u3,u8,w1,b6];intro aI K;have eZ:aI c3=_:=(by rw[K];exact bx dA:aI c3=j c3).trans b8;simp only[ah,seval,eZ];intro G X;exact fx _ j G A hx bh bk bl bG g' _ _ bm.q bm.f y2 y3 (by rw[X,K];rfl) (k9 (by rw[e0,hd];exact WI hl jl)) (by simp[ak,u2]) (by simp[ak,u3]) (by simp[ak];simpa using w1) atA
    |true=>
     obtain⟨⟨p1,p2,p3,rfl⟩,⟨p4,p5,p6,rfl⟩,⟨p7,p8,p9,rfl⟩,en,eo,et,rfl⟩:=id bm.sl;subst hb hg;simp only[ah,seval,u9,fg,G9,eQ];intro aI K;have tA:=bw K;have z7:aI cG=_:=(by rw[K];exact bx (zz oj):aI cG=j cG).trans ek;simp only[ah,seval,u7,tA,z7,eQ];intro G X;have QE:=(bm.q.ty G9 (z:=fY (.slice p1 p2 p3) (.slice p4 p5 p6) (a.step n).b.cW (a.step n).b.cS (.slice p7 p8 p9) (.slice en eo et) ((jP n:Int)- 1))).put (z:=fY (.slice p1 p2 p3) (.slice p4 p5 p6) (a.step n).b.cW (a.step n).b.cS (.slice p7 p8 p9) (.slice en eo et) ((jP n:Int)- 1)) m7;have FE:=bm.f.put (z:=fY (.slice p1 p2 p3) (.slice p4 p5 p6) (a.step n).b.cW (a.step n).b.cS (.slice p7 p8 p9) (.slice en eo et) ((jP n:Int)- 1)) f9;have hf:G=(j.put dk (fY (.slice p1 p2 p3) (.slice p4 p5 p6) (a.step n).b.cW (a.step n).b.cS (.slice p7 p8 p9) (.slice en eo et) ((jP n:Int)- 1))).put cG (fY (.slice p1 p2 p3) (.slice p4 p5 p6) (a.step n).b.cW (a.step n).b.cS (.slice p7 p8 p9) (.slice en eo et) ((jP n:Int)- 1)):=by rw[X,K];rfl
     have lf:∀d,d≠dk->d≠cG->G d=j d:=λd a b=>by rw[hf,bx b,bx a]
     rw[<- hf]at QE;simp only[ah,seval,u8,w1];refine⟨L.length- (i+1),U,i+1,a.step n,A,.slice p1 p2 p3,.slice p4 p5 p6,.slice p7 p8 p9,.slice en eo et,rfl,U,by simp[u2],by simp[u3],by simp[u6],by simp[u7],Y,?_,?_⟩
     .rw[e0,hd];exact WJ hl jl
     .refine⟨bm.sl,QE,⟨λd hd=>(by cases hd),λd z hd E=> ?_,λd hd=>FE.cZ d hd,λd hd=>(by cases hd)⟩,fit.step (WL U hl) jl,(lf c2 (zz om) (zz hN)).trans y2,(lf c3 (zz oo) (zz kE)).trans y3,?_⟩
      .rw[hf,bx (λe=>hd (by rw[e];exact m7))];exact FE.out d z hd E
      .rw[hf,cI,apQ]
 .have o2:i=L.length:=U
  rw[o2,List.drop_length]at e0;have hj:mP txt=.inr a:=e0;have jw:=x2;have j0:=x3;have ea:=x7;unfold zh at jw;unfold zi at j0;unfold fY at ea;have hS:h.ar u:=λd z hd=>F.out d z (λN=>by rw[gI d N]at hd;cases hd) (gy _ _ hd);have aK:∀d∈M,h d=o0:=λd hd=>(F.cZ d hd).elim (gI d) λe=>fh gy e;simp only[ah,seval,e6,e8,decide_eq_false (U:¬((i:Nat):Int)<L.length),e7,ea,eQ];by_cases qw:a.last<4
  .have fs:a.jQ=q9:=by rw[fit.jQ,decide_eq_false U]
   simp only[ah,seval,decide_eq_true (U:a.last- 1<3),qZ,rb,e2,e3,jw];intro aI K;have eZ:aI c3=_:=(by rw[K];exact bx dA:aI c3=u c3).trans j0;simp only[ah,seval,eZ];intro G X;exact fx _ u G M _ _ _ _ a.b a.g _ _ Q F x2 x3 (by rw[X,K];rfl) (WN hj fs) (by simp[ak,e2]) (by simp[ak,e3]) atA atA
  have fs:a.jQ=J:=by rw[fit.jQ,decide_eq_true U]
  obtain⟨hF,lF,nF,⟨dH,d2⟩,js,jJ⟩:=Q.out m7 (λ_ _ _ e=>e) aK;simp only[ah,seval,decide_eq_false (U:¬a.last- 1<3),e7,ea,eQ];refine cd Ub (Uc (x:=a.b) ⟨_,_,rfl,dH.le lF,d2.le lF⟩) λgA h8 z ⟨D,ag,p⟩=> ?_;subst D;subst p;by_cases ft:a.b.dr=0
  case neg=>
   have ef:(a.b.dr != 0)=J:=by simpa using ft
   have ew:gY a.b a.g=a.b.dr:=by unfold gY;rw[if_neg ft]
   have b6:=ag _ _ jw;have b8:=ag _ _ j0;simp only[ah,seval,ef,qZ,rb,e2,e3,b6];intro aI K;have eZ:aI c3=_:=(by rw[K];exact bx dA:aI c3=h8 c3).trans b8;simp only[ah,seval,eZ];intro G X;exact fx _ h8 G M _ _ _ _ a.b a.g _ _ (Q.le ag) (F.le ag) (ag _ _ x2) (ag _ _ x3) (by rw[X,K];rfl) (by rw[Ga hj fs (by rw[ew];exact ft),ew]) (by simp[ak,e2]) (by simp[ak,e3]) atA atA
  have ek:=ag _ _ ea;simp only[ah,seval,ft,(atz:((0:Int) != 0)=q9),e7,ek,eQ];refine cd Ue (Uf (x:=a.g) ⟨_,_,rfl,dE.le (lF.ay ag) js,dE.le (lF.ay ag) jJ⟩) λs6 h9 z ⟨D,ey,p⟩=> ?_;subst D;subst p;have ew:gY a.b a.g=a.g.dr:=by unfold gY;rw[if_pos ft]
  have y2:=ey _ _ (ag _ _ x2);have y3:=ey _ _ (ag _ _ x3);have y7:=ey _ _ ek;have b6:=y2;have b8:=y3;unfold zh at b6;unfold zi at b8;have Q9:=Q.le (ag.ay ey);have F9:=F.le (ag.ay ey);by_cases hn:a.g.dr=0
  case neg=>
   have ef:(a.g.dr != 0)=J:=by simpa using hn
   simp only[ah,seval,ef,qZ,rb,e2,e3,b6];intro aI K;have eZ:aI c3=_:=(by rw[K];exact bx dA:aI c3=h9 c3).trans b8;simp only[ah,seval,eZ];intro G X;exact fx _ h9 G M _ _ _ _ a.b a.g _ _ Q9 F9 y2 y3 (by rw[X,K];rfl) (by rw[Ga hj fs (by rw[ew];exact hn),ew]) (by simp[ak,e2]) (by simp[ak,e3]) atA atA
  have j2:=WO hj fs (by rw[ew];exact hn);simp only[ah,seval,hn,(atz:((0:Int) != 0)=q9),fI];intro t;refine tD (c:=q9) (Cz:=λj=>j cG=C (fY (.slice a1 bK k1) (.slice a2 bR k2) a.b.cW a.b.cS (.slice a3 cQ W) (.slice a4 n4 k4) (a.last- 1))) (xl:=[76]) eR O O O O (.inr O) y7 ?_ t
  repeat first|refine lR rfl rfl (λh1=>by simp only[ah,seval,cJ,e7,eQ];exact rfl) ?_|refine lU rfl rfl (by simp only[ah,seval,cJ,y7,eQ];exact rfl) ?_
  refine yY rfl rfl (λh1 g=>by unfold fY at g;simp only[ah,seval,cJ,g,eQ];exact rfl) ?_;refine n1 (h':=h9.put c2 ⟨.cells #[.slice a1 bK k1,.slice a2 bR k2,.int .i64 a.b.cW,.int .i64 a.b.cS] 25 (0,0),J⟩) (by rw[bx hN];exact y7) (by simp only[ah,seval,iF,e2,b6];exactλ_ e=>e) ?_;refine n1 (h':=(h9.put c2 ⟨.cells #[.slice a1 bK k1,.slice a2 bR k2,.int .i64 a.b.cW,.int .i64 a.b.cS] 25 (0,0),J⟩).put c3 ⟨.cells #[.slice a3 cQ W,.slice a4 n4 k4] 29 (0,0),J⟩) (by rw[bx kE,bx hN];exact y7) (by simp only[ah,seval,iF,e3,bx dA,b8];exactλ_ e=>e) ?_
  repeat first|refine lR rfl rfl (λh1=>by simp only[ah,seval,cJ];exact rfl) ?_|refine lU rfl rfl (by simp only[ah,seval,cJ,e2];exact rfl) ?_
  rw[tE];have QE:=(Q9.put (z:=⟨.cells #[.slice a1 bK k1,.slice a2 bR k2,.int .i64 a.b.cW,.int .i64 a.b.cS] 25 (0,0),J⟩) m2).put (z:=⟨.cells #[.slice a3 cQ W,.slice a4 n4 k4] 29 (0,0),J⟩) m3;have i2:((h9.put c2 ⟨.cells #[.slice a1 bK k1,.slice a2 bR k2,.int .i64 a.b.cW,.int .i64 a.b.cS] 25 (0,0),J⟩).put c3 ⟨.cells #[.slice a3 cQ W,.slice a4 n4 k4] 29 (0,0),J⟩) c2=C ⟨.cells #[.slice a1 bK k1,.slice a2 bR k2,.int .i64 a.b.cW,.int .i64 a.b.cS] 25 (0,0),J⟩:=by rw[bx (zz dA),cI]
  have i3:((h9.put c2 ⟨.cells #[.slice a1 bK k1,.slice a2 bR k2,.int .i64 a.b.cW,.int .i64 a.b.cS] 25 (0,0),J⟩).put c3 ⟨.cells #[.slice a3 cQ W,.slice a4 n4 k4] 29 (0,0),J⟩) c3=C ⟨.cells #[.slice a3 cQ W,.slice a4 n4 k4] 29 (0,0),J⟩:=cI;have lr:h.ar ((h9.put c2 ⟨.cells #[.slice a1 bK k1,.slice a2 bR k2,.int .i64 a.b.cW,.int .i64 a.b.cS] 25 (0,0),J⟩).put c3 ⟨.cells #[.slice a3 cQ W,.slice a4 n4 k4] 29 (0,0),J⟩):=dM (dM (hS.ay (ag.ay ey)) hG rfl) f3 rfl;generalize(h9.put c2 ⟨.cells #[.slice a1 bK k1,.slice a2 bR k2,.int .i64 a.b.cW,.int .i64 a.b.cS] 25 (0,0),J⟩).put c3 ⟨.cells #[.slice a3 cQ W,.slice a4 n4 k4] 29 (0,0),J⟩=G at QE i2 i3 lr;obtain⟨hF,lF,nF,⟨dH,d2⟩,js,jJ⟩:=QE.out m7 (λ_ _ _ e=>e) aK;simp only[ah,seval];refine F0 aCM Y Y Y Y (pa:=c2) (pb:=c3) (by simp[ak,e2]) (by simp[ak,e3]) (ni O i2 rfl) (ni O i3 rfl) ⟨rfl,lr,.agg ⟨[.slice a1 bK k1,.slice a2 bR k2,.int .i64 a.b.cW,.int .i64 a.b.cS]⟩,.agg ⟨[.slice a3 cQ W,.slice a4 n4 k4]⟩,hF,by rw[j2];simp[ak],lF,nF,?_,?_⟩
  .rw[j2];exact⟨_,_,rfl,dH,d2⟩
  .rw[j2];exact⟨_,_,rfl,js,jJ⟩
end
def aqQ{n:Nat}(h:10<=n)(f:n<10000):dec n=dec (n/10)++dec (n%10):=by
 have e:dec (n%10)=[fL (n%10)]:=by unfold dec;rw[if_pos U]
 rw[e];by_cases a:n<100
 .have c:dec n=[fL (n/10),fL (n%10)]:=by unfold dec;rw[if_neg U,if_pos a]
  have d:dec (n/10)=[fL (n/10)]:=by unfold dec;rw[if_pos U]
  rw[c,d];rfl
 .by_cases b:n<1000
  .have c:dec n=[fL (n/100),fL (n/10%10),fL (n%10)]:=by unfold dec;rw[if_neg U,if_neg a,if_pos b]
   have d:dec (n/10)=[fL (n/10/10),fL (n/10%10)]:=by unfold dec;rw[if_neg U,if_pos U]
   rw[c,d,(U:n/10/10=n/100)];rfl
  .have c:dec n=[fL (n/1000),fL (n/100%10),fL (n/10%10),fL (n%10)]:=by unfold dec;rw[if_neg U,if_neg a,if_neg b]
   have d:dec (n/10)=[fL (n/10/100),fL (n/10/10%10),fL (n/10%10)]:=by unfold dec;rw[if_neg U,if_neg U,if_pos U]
   rw[c,d,(U:n/10/100=n/1000),(U:n/10/10=n/100)];rfl
section
variable{main:Bool}{ai:Type}{S:Sys ai}{s:ai}{h:ae}
def NA:bz pv 110=J:=O
def Gg:bz pv 72=J:=O
def JQ:fw pv 5=C (.int .u8 0):=O
def Fl:cu pv 5=C 1:=O
def aqR:(Array.range (1*1)).map (λi=>(Value.cells (.int .u8 0))[i%(Value.cells (.int .u8 0)).size]!)=#[.int .u8 0]:=O
def aqS{a:Int}{K:o5->ae->Prop}(k:∀c h1,h c=o0->h1=h.put c ⟨.cells ⟨[.int .u8 a]⟩ 5 (0,0),J⟩->K (dn c 0 1 1) h1):@al pv _ (Instr.buildSlice 87 1 #[(0,.int .u8 a)]) h ⟨K⟩:=by simp only[al,Instr.buildSlice,aJ,c0,aw8,gD,Fl];rw[if_neg aty,if_neg aty];simp only[aJ,kH,JQ,aR,aqR];intro c hc;exact k c _ hc rfl
def aqT:∀{n:Nat} (e:n<10000) {s:ai} {h:ae},bo pv main S 110 #[.int .u64 n] s h λr h' v=>r=s/\h.ar h'/\v=au (dec n):=by
 intro n
 induction n using Nat.strongRecOn with
 |ind n g=>
 intro e s h;refine bL (args:=[.int .u64 n]) Tryz.func110 (by delta Tryz.f110;rfl) Tryz.ntmps110 Y O ?_;rcases vy n 10 with hc|hc
 .have t:IntKind.u64.wrap (48+(n:Int))=((48+n:Nat):Int):=by rw[(U:(48:Int)+n=((48+n:Nat):Int))];exact pT U (.inl rfl)
  simp only[ah,seval,decide_eq_true (U:(n:Int)<10),t,Mp,A8 (U:48+n<256)];refine aqS λc h1 j i=> ?_;have k:=bU j i;have u:=bw i;simp only[ah,seval];refine Mu (bs:=[fL n]) aw8 Tryz.underlying5 Tryz.underlying9 ?_ ?_
  .rw[iX u];show C [Value.int .u8 ((48+n:Nat):Int)]=C [Value.int .u8 ((fL n).toNat:Nat)];rw[uS hc]
  simp only[ah,seval];refine bu aCN Y ⟨rfl,k,?_⟩;simp[ak,dec,hc]
 .have l:∀{x y:su} {h:ae} [K:KK o5],al pv (bN .quo 206 x y (.int .u64 n) (.int .u64 10)) h=K.f (.int .u64 ((n/10:Nat):Int)) h:=λ{x y h K}=>A5 (b:=10) rfl rfl U;have m:∀{x y:su} {h:ae} [K:KK o5],al pv (bN .rem 206 x y (.int .u64 n) (.int .u64 10)) h=K.f (.int .u64 ((n%10:Nat):Int)) h:=λ{x y h K}=>Fc (b:=10) rfl;simp only[ah,seval,decide_eq_false (U:¬(n:Int)<10),l];refine cd NA (g (n/10) U U) λw z v ⟨a,o,d⟩=> ?_;subst a;subst d;simp only[ah,seval,m];refine cd NA (g (n%10) U U) λfe A v ⟨a,p,d⟩=> ?_;subst a;subst d;have hs:(dec (n/10)).length+(dec (n%10)).length<=1000000:=by have:=qV (n:=n/10);have:=qV (n:=n%10);omega
  have q:∀{x y:su} {h:ae} [K:KK o5],al pv (bN .add 9 x y (au (dec (n/10))) (au (dec (n%10)))) h=K.f (au (dec (n/10)++dec (n%10))) h:=λ{x y h K}=>ma hs;simp only[ah,seval,q];exact bu aCN Y ⟨rfl,o.ay p,by simp[ak,aqQ hc e]⟩
end
section
variable{main:Bool}{ai:Type}{S:Sys ai}{s:ai}{h:ae}
def aqU{b:aS}{kk:IntKind}{i:Int}[K:hA ai]:iw pv main S b 3 206 (.int kk i) s h=K.f s h (.int .u64 (IntKind.u64.wrap i)):=wH Tryz.underlying3 Tryz.underlying206
def Gh{i:Int}(hi:nS i):bo pv main S 72 #[.int .i64 i] s h λe h' v=>e=s/\h.ar h'/\v=au (dJ i):=by
 obtain⟨n,rfl⟩:=Int.eq_ofNat_of_zero_le hi.1;have a:n<10000:=by have:=hi.2;omega
 refine bL (args:=[.int .i64 n]) Tryz.func72 (by delta Tryz.f72;rfl) Tryz.ntmps72 Y O ?_;have f:IntKind.u64.wrap (n:Int)=(n:Int):=pT U (.inl rfl);simp only[ah,seval,decide_eq_false (U:¬(n:Int)<0),aqU,f];refine cd NA (aqT a) λg j v ⟨b,c,d⟩=> ?_;subst b;subst d;simp only[ah,seval];exact bu Tryz.results72 Y ⟨rfl,c,by simp[ak,dJ]⟩
end
def tJ(w:List UInt8)(fs:List (List UInt8)):List UInt8:=w++fs.flatMap (λf=>32::f)++[10]
def W9{w:List UInt8}{ns:List Int}:tJ w (ns.map dJ)=gB w ns:=by simp[tJ,gB,qT,aAV]
section
variable{main:Bool}{ai:Type}{S:Sys ai}{s:ai}{h:ae}
def Gi:bz pv 39=J:=O
def zj:bz pv 38=J:=O
def aqV:bz pv 40=J:=O
def Gj{v:o5}{ns:List Int}(M:ig h v ns)(N:∀n∈ns,nS n)(hl:ns.length<=100):bo pv main S 39 #[v] s h λs' h' z=>s'=s/\h.ar h'/\∃a,eB h' z 9 1 (ns.map λn=>jO (dJ n)) a/\∀d,a=C d->h d=o0:=by
 refine bL (args:=[v]) Tryz.func39 (by delta Tryz.f39;rfl) Tryz.ntmps39 Y O ?_;obtain⟨b,o,n,c,rfl,w,hb⟩:=M;simp only[atJ]at w;subst w;simp only[ah,seval];refine du (I:=λk e d A p=>∃i t a,k=ns.length- i/\i<=ns.length/\e 0=.slice b ns.length c/\e 4=.int .i64 i/\e 3=t/\d=[]/\A=s/\h.ar p/\(∀d,a=C d->h d=o0)/\eB p t 9 1 ((ns.take i).map λn=>jO (dJ n)) a) (λk e d A p P=> ?_) (m:=ns.length) ⟨0,.slice o0 0 0,o0,Y,Y,atA,atA,atA,rfl,rfl,.cO _,(λ_ q=>by cases q),.nil⟩;obtain⟨i,t,a,rfl,hi,e0,u,K,rfl,rfl,g,j,q⟩:=P;obtain⟨a1,bK,c1,rfl⟩:=q.slice;rcases vy i ns.length with hc|hc
 .obtain⟨mb,rfl,arr,q',f,w',hm,Q⟩:=hb.resolve_left U;have L:arr[o+i]? =C (.int .i64 ns[i]):=by simpa[bO]using Q i [bO ns[i]] (by simp[hc]) 0 _ rfl
  have R:=g _ _ hm;have bd:decide ((i:Int)<ns.length)=J:=atB
  have B:=N _ (N0 hc);have D:(ns.take (i+1)).map (λn=>jO (dJ n))=(ns.take i).map (λn=>jO (dJ n))++[jO (dJ ns[i])]:=by
   have:ns.take (i+1)=ns.take i++[ns[i]]:=by rw[atC];simp[hc]
   rw[this,auu];rfl
  generalize ns[i]=x at L B D;simp only[ah,seval,e0,K,u,R,L,bd];refine cd Gg (Gh B) λs2 h2 z ⟨W,E,X⟩=> ?_;subst W;subst X;simp only[ah,seval];refine yW λc3 h4 F l=> ?_;have ab:=bU F l;have g4:=bw l;simp only[ah,seval];refine pX (row:=jO (dJ x)) au4 jC Bg tA rfl aty aty aty (uV (h0:=h) (q.keep λd y _ hy=>E _ _ hy) F l) rfl rfl atB (by rw[iX g4];rfl) λbk h5 af k1 k2 G=> ?_;obtain⟨a2,bR,c2,rfl⟩:=G.slice;simp only[ah,seval,u];have H:=g.ay (E.ay ab);refine⟨ns.length- (i+1),U,i+1,.slice a2 bR c2,af,rfl,U,e0,by simp[cq (x:=(i:Int)+1) U U],rfl,λd y hd=>k1 _ _ (λe=>by have:=j d e;rw[this]at hd;cases hd) (H _ _ hd),λd hd=> ?_,by rw[D];exact G⟩;rcases k2 with r|⟨bG,r,az⟩
  .exact j d (r▸hd)
  .rw[r]at hd;cases hd;exact fh H az
 .have:i=ns.length:=U
  subst this;rw[N3]at q;simp only[ah,seval,e0,K,u,decide_eq_false (U:¬((ns.length:Nat):Int)<ns.length)];exact bu Tryz.results39 Y ⟨rfl,g,a,by simpa[ak]using q,j⟩
def aqW{fs:List (List UInt8)}{i:Nat}(hi:i<fs.length):(fs.take (i+1)).flatMap (λf=>(32:UInt8)::f)=(fs.take i).flatMap (λf=>(32:UInt8)::f)++32::fs[i]:=qU hi
def zk{v:o5}{w:List UInt8}{fs:List (List UInt8)}(E:fW h v fs)(F:w.length<=1000/\fs.length<=100)(p:∀f∈fs,f.length<=1000):bo pv main S 38 #[au w,v] s h λN h' z=>N=s/\h'=h/\z=au (tJ w fs):=by
 refine bL (args:=[au w,v]) Tryz.func38 (by delta Tryz.f38;rfl) Tryz.ntmps38 Y O ?_;obtain⟨b,o,n,c,rfl,q,hb⟩:=E;simp only[atJ]at q;subst q;simp only[ah,seval];refine du (I:=λk e d r u=>∃i:Nat,k=fs.length- i/\i<=fs.length/\e 1=.slice b fs.length c/\e 6=.int .i64 i/\e 5=au (w++(fs.take i).flatMap (λf=>32::f))/\d=[]/\r=s/\u=h) (λk e d r u G=> ?_) (m:=fs.length) ⟨0,Y,Y,atA,atA,atA,rfl,rfl,rfl⟩;obtain⟨i,rfl,hi,A,B,j,rfl,rfl,rfl⟩:=G;have t:((fs.take i).flatMap (λf=>(32:UInt8)::f)).length<=1001*100:=qW (λf H=>by have:=p f H;simp;omega) F.2;rcases vy i fs.length with hc|hc
 .obtain⟨R,rfl,arr,Q,f,w',P,L⟩:=hb.resolve_left U;have D:arr[o+i]? =C (au fs[i]):=by simpa using L i [au fs[i]] (by simp[hc]) 0 _ rfl
  have bd:decide ((i:Int)<fs.length)=J:=atB
  have l:=aqW hc;have M:=p _ (N0 hc);generalize fs[i]=x at D l M;generalize(fs.take i).flatMap (λf=>(32:UInt8)::f)=g at j t l;have a1:∀{x y:su} {h:ae} [K:KK o5],al pv (bN .add 9 x y (au (w++g)) (.string ⟨#[32]⟩)) h=K.f (au ((w++g)++[32])) h:=λ{x y h K}=>ma (a:=w++g) (b:=[32]) atB;have a2:∀{z y:su} {h:ae} [K:KK o5],al pv (bN .add 9 z y (au ((w++g)++[32])) (au x)) h=K.f (au (((w++g)++[32])++x)) h:=λ{z y h K}=>ma atB;simp only[ah,seval,A,j,B,bd,P,D,a1,a2];refine⟨fs.length- (i+1),U,i+1,rfl,U,by simp[cq (x:=(i:Int)+1) U U],?_⟩;rw[l];simp
 .have:i=fs.length:=U
  subst this;rw[N3]at j t;have a1:∀{x y:su} {h:ae} [K:KK o5],al pv (bN .add 9 x y (au (w++fs.flatMap (λf=>(32:UInt8)::f))) (.string ⟨#[10]⟩)) h=K.f (au (tJ w fs)) h:=λ{x y h K}=>ma (a:=w++fs.flatMap (λf=>(32:UInt8)::f)) (b:=[10]) (by simp only[M3,RF,auM];omega);simp only[ah,seval,A,j,B,decide_eq_false (U:¬((fs.length:Nat):Int)<fs.length),a1];exact bu Tryz.results38 Y ⟨rfl,rfl,atA⟩
def aqX{p:Int×Int}(h1:nS p.1)(n:nS p.2)(E:p.1<=p.2):bo pv main S 40 #[gk p] s h λA h' z=>A=s/\h.ar h'/\z=au (nh p):=by
 refine bL (args:=[gk p]) Tryz.func40 (by delta Tryz.f40;rfl) Tryz.ntmps40 Y O ?_;simp only[ah,seval,gk];intro c B hc o;have m:=bU hc o;have i:=bw o;by_cases heq:p.1=p.2
 .have e:(p.1==p.2)=J:=by simpa using heq
  simp only[ah,seval,i,e];refine cd Gg (Gh h1) λF n z ⟨r,u,w⟩=> ?_;subst r;subst w;simp only[ah,seval];exact bu aCO Y ⟨rfl,m.ay u,by simp[ak,nh,(U:¬p.1<p.2)]⟩
 .have e:(p.1==p.2)=q9:=by simpa using heq
  have G:=@qV p.1.toNat;have D:=@qV p.2.toNat;have a1:∀{x y:su} {h:ae} [K:KK o5],al pv (bN .add 9 x y (au (dJ p.1)) (.string ⟨#[46,46]⟩)) h=K.f (au (dJ p.1++[46,46])) h:=λ{x y h K}=>ma (a:=dJ p.1) (b:=[46,46]) (by simp[dJ];omega);have a2:∀{z y:su} {h:ae} [K:KK o5],al pv (bN .add 9 z y (au (dJ p.1++[46,46])) (au (dJ p.2))) h=K.f (au ((dJ p.1++[46,46])++dJ p.2)) h:=λ{z y h K}=>ma (by simp[dJ];omega);have gc:∀h,B.ar h->h c=_:=λh le=>le _ _ i;simp only[ah,seval,i,e,fI];intro t;refine kv eR O O ?_ t
  repeat refine gF (λh1 le=>by simp only[ah,seval,cJ,le,gc];exact⟨λ_ _ q=>q,rfl⟩) ?_
  refine gF (v:=au (dJ p.1)) (λd g=> ?_) ?_
  .simp only[ah,seval,cJ];exact cd Gg (Gh h1) λfe d v ⟨j,k,l⟩=>⟨j,k,l⟩
  repeat refine gF (λh1 le=>by simp only[ah,seval,cJ,le,gc,a1];exact⟨λ_ _ q=>q,rfl⟩) ?_
  refine gF (v:=au (dJ p.2)) (λd g=> ?_) ?_
  .simp only[ah,seval,cJ];exact cd Gg (Gh n) λfe d v ⟨j,k,l⟩=>⟨j,k,l⟩
  repeat refine gF (λh1 le=>by simp only[ah,seval,cJ,a2];exact⟨λ_ _ q=>q,rfl⟩) ?_
  rw[jN];intro d g;simp only[ah,seval];exact bu aCO Y ⟨rfl,m.ay g,by simp[ak,nh,(U:p.1<p.2)]⟩
end
def aqY{L:List (Int×Int)}:tJ lQ (L.map nh)=kQ L:=by simp[tJ,kQ,mO,aAV]
def Xa{w n:List UInt8}{ns:List Int}:tJ w (n::ns.map dJ)=gB (w++32::n) ns:=by simp[tJ,gB,qT,aAV]
def fW.nil{h:ae}:fW h (.slice o0 0 0) []:=⟨o0,0,0,0,rfl,rfl,.inl rfl⟩
def aqZ{i:Int}:(dJ i).length<=4:=qV
def Gk{ns:List Int}:∀f∈ns.map dJ,f.length<=1000:=λf a=>by obtain⟨n,_,rfl⟩:=aui.1 a;have:=@aqZ n;omega
def fW.mk{h:ae}{c:Nat}{fs:List (List UInt8)}{f:Nat×Nat}{w:Bool}{rest:List o5}{q m:Nat}(g:h c=C ⟨.cells ⟨fs.map au++rest⟩ q f,w⟩):fW h (dn c 0 fs.length m) fs:=by
 refine⟨_,0,_,_,rfl,Y,.inr ⟨c,rfl,_,_,_,_,g,λi k a j x d=> ?_⟩⟩;rw[List.getElem?_map]at a;cases b:fs[i]? with
 |none=>rw[b]at a;cases a
 |some n=>
  rw[b]at a;cases a;have e:=(List.getElem?_eq_some_iff.1 b).1;cases j with
  |zero=>cases d;rw[Nat.zero_add,Nat.mul_one,Nat.add_zero,List.getElem?_toArray,List.getElem?_append_left (by simpa using e)];simp[b]
  |succ j=>simp at d
def Xb:∀{fs:List (List UInt8)},(fs.map jO).flatten=fs.map au
 | []=>rfl
 |x::l=>by rw[List.map_cons,List.flatten_cons,Xb];rfl
def NB{α:Type}{g:α->List UInt8}{h:ae}{z:o5}{l:List α}{a:Option Nat}(q:eB h z 9 1 (l.map λn=>jO (g n)) a):fW h z (l.map g):=by have:=q.at;unfold fW;rw[List.map_map];exact this
def Xc{h:ae}{c:Nat}{v:o5}{n:List UInt8}{l:List (List o5)}{t:Option Nat}{fs:List (List UInt8)}(d:l=fs.map jO)(a:fs.length=3)(g:h c=C ⟨.cells ⟨[au n]⟩ 9 (0,0),J⟩)(q:eB h v 9 1 l t){ty:TypeId}{K:o5->ae->Prop}
  (k:∀o h',h.ar h'->fW h' o (n::fs)->K o h'):@al pv _ (Builtin.append_ #[98,98] ty #[dn c 0 1 1,v]) h ⟨K⟩:=by
 subst d;rcases q with⟨_,e,_⟩|⟨b,u,arr,_,rfl,hb,y,z,i,_⟩
 .rw[List.map_eq_nil_iff]at e;rw[e]at a;simp at a
 have j:(fs.map jO).length=3:=by simp[a]
 rw[j]at i;have p:=Xb (fs:=fs);have x:(fs.map jO).length*1=3:=U
 have r:∀Q,aH pv (Builtin.firstCells 1 (fs.map jO).length (dn b 0 (fs.map jO).length u)) h Q=Q ⟨fs.map au⟩ h:=λQ=>by refine uo ?_ Q;rw[iX hb,Ba _ _ U,x];simp[i,p]
 refine sR (m:=(fs.map jO).length) (new':=fs.map au) au4 au4 jC Bg tA rfl aty aty r (λhc=>by omega) (λ_=>⟨U,aty,[au n],λQ=>uo (by rw[iX g];rfl) Q,λdq h1 bG s rest d=> ?_⟩);refine k _ _ (gW s) ?_;rw[j];have:=fW.mk (h:=h.put bG ⟨.cells ⟨[au n]++fs.map au++rest⟩ 9,J⟩) (c:=bG) (fs:=n::fs) (rest:=rest) (q:=9) (f:=(0,0)) (w:=J) (m:=dq) (by rw[cI];simp);simpa[a]using this
section
variable{main:Bool}{ai:Type}{S:Sys ai}{s:ai}{h:ae}
def aq0:bz pv 9=J:=O
def aq1{v w:o5}{x:bY}{y:Ground}(hv:k7 h v x)(hw:kL h w y):bo pv main S 9 #[v,w] s h λs' h' z=>s'=s/\h.ar h'/\((x.dF/\y.dF)/\z=.tuple #[au (tz x y),.int .i64 0]\/gY x y≠0/\z=.tuple #[au [],.int .i64 (gY x y)]):=by
 refine bL (args:=[v,w]) Tryz.func9 (by delta Tryz.f9;rfl) Tryz.ntmps9 Y O ?_;obtain⟨v1,v2,aA,⟨vs,kn,hP⟩,us,kr,hQ⟩:=id hv;obtain⟨w1,w2,ew,kt,kx⟩:=id hw;rw[aA,ew];simp only[ah,seval,bO];intro c1 h1 kE e1 c2 h2 ef l;have de:=(bU kE e1).ay (bU ef l);have g1:=bU ef l _ _ (bw e1);have g2:=bw l;simp only[ah,seval,g1];have eF:=hv.le de;rw[aA]at eF;refine cd Ub (Uc eF) λfe h3 z ⟨B,bt,Q⟩=> ?_;subst B;subst Q;simp only[ah,seval];by_cases hq:x.dr=0
 case neg=>
  have e:(x.dr != 0)=J:=by simpa using hq
  have ep:gY x y=x.dr:=by unfold gY;rw[if_neg hq]
  simp only[ah,seval,e];exact gT aAW Y Y ⟨rfl,de.ay bt,.inr ⟨by rw[ep];exact hq,by simp[ak,ep]⟩⟩
 have e:(x.dr != 0)=q9:=by simp[hq]
 have kA:=bY.uO.1 hq;have ep:gY x y=y.dr:=by unfold gY;rw[if_pos hq]
 simp only[ah,seval,e,bt _ _ g2];have eL:=hw.le (de.ay bt);rw[ew]at eL;refine cd Ue (Uf eL) λs4 h5 z ⟨B,dt,Q⟩=> ?_;subst B;subst Q;simp only[ah,seval];by_cases dx:y.dr=0
 case neg=>
  have e:(y.dr != 0)=J:=by simpa using dx
  simp only[ah,seval,e];exact gT aAW Y Y ⟨rfl,(de.ay bt).ay dt,.inr ⟨by rw[ep];exact dx,by simp[ak,ep]⟩⟩
 have e:(y.dr != 0)=q9:=by simp[dx]
 have pe:=Ground.uO.1 dx;simp only[ah,seval,e];clear eF eL e hq dx ep;have b9:=(de.ay bt).ay dt;have eg:=(bt.ay dt) _ _ g1;have e0:=(bt.ay dt) _ _ g2;clear g1 g2 de bt dt;have k4:=kA.n4;simp only[ah,seval,eg];refine U0 λc h7 hc R=> ?_;have hS:=bU hc R;have gb:=bw R;clear R;simp only[ah,seval];refine cd Gi (Gj (ig.built (ns:=[x.cW,x.cS]) gb) (by intro n hn;simp at hn;rcases hn with rfl|rfl;exact k4.1.1;exact k4.1.2) Y) λgA h8 z ⟨B,az,M,Q,_⟩=> ?_;subst B;simp only[ah,seval];refine cd zj (zk (w:=pV) (fs:=[x.cW,x.cS].map dJ) (NB Q) ⟨aty,Y⟩ Gk) λs6 h9 z2 ⟨B,G,q4⟩=> ?_;subst B;subst G;subst q4;rw[W9];have bb:=hS.ay az;have g1:=bb _ _ eg;simp only[ah,seval];obtain⟨p,o,cp,rfl,hp⟩:=(kn.le b9).one;have aW:=hP.1;have ll:=kA.lay;obtain⟨cm,hT⟩:∃cm,cm=gB pV [x.cW,x.cS]:=⟨_,rfl⟩;have lT:cm.length<=20:=by rw[hT];exact Nat.le_trans pW (by simp[pV])
 rw[<- hT];clear gb Q hc hS az;refine du (I:=λk e d sx N=>∃i:Nat,k=vs.length- i/\i<=vs.length/\e 2=aV c1 0/\e 3=aV c2 0/\e 9=.int .i64 i/\e 8=au (cm++(x.b2.take i).flatMap (gB iY))/\d=[]/\sx=s6/\h5.ar N) (λk e d sx N hI=> ?_) (m:=vs.length) ⟨0,Y,Y,atA,atA,atA,atA,rfl,rfl,bb⟩;clear bb g1;obtain⟨i,rfl,hi,l,F,e9,D,rfl,rfl,E⟩:=hI;have g1:=E _ _ eg;have e5:=qW (f:=gB iY) (i:=i) (k:=26) (λa ha=>by have:=@pW iY a;have:=(kA.uM a ha).1;simp[iY]at *;omega) ll.2;rcases vy i vs.length with hc|hc
 .obtain⟨mb,rfl,arr,q,f,w',hm,hr⟩:=hp.resolve_left U;have gm:=E _ _ hm;have da:=hr i hc;have bd:decide ((i:Int)<vs.length)=J:=atB
  have b0:i<x.b2.length:=U
  have A:=dE.le (b9.ay E) (hP.2 i vs[i] x.b2[i] Y Y);have W:=qU (f:=gB iY) b0;have l4:=(kA.uM _ (N0 b0)).1;have n4:=k4.2.1 _ (N0 b0);generalize x.b2[i]=L at A W l4 n4;generalize(x.b2.take i).flatMap (gB iY)=T2 at D W e5;obtain⟨a1,o1,z1,dH,fa,_⟩:=id A;rw[fa]at da A;simp only[ah,seval,l,D,e9,g1,gm,da,bd];refine cd Gi (Gj A n4 U) λgA h8 z ⟨B,az,M,Q,_⟩=> ?_;subst B;simp only[ah,seval];refine cd zj (zk (w:=iY) (fs:=L.map dJ) (NB Q) ⟨aty,atB⟩ Gk) λs6 h9 z2 ⟨B,G,q4⟩=> ?_;subst B;subst G;subst q4;rw[W9];have lL:=@pW iY L;have A1:∀{x y:su} {h:ae} [K:KK o5],al pv (bN .add 9 x y (au (cm++T2)) (au (gB iY L))) h=K.f (au ((cm++T2)++gB iY L)) h:=λ{x y h K}=>ma (by have:iY.length=5:=rfl;simp only[M3];omega);simp only[ah,seval,A1,e9];refine⟨vs.length- (i+1),U,i+1,rfl,U,l,F,by simp[cq (x:=(i:Int)+1) U U],?_,E.ay az⟩;rw[W,auN]
 .have ba:i=x.b2.length:=U
  rw[ba,N3]at D e5;simp only[ah,seval,l,e9,decide_eq_false (U:¬(i:Int)<vs.length),g1];obtain⟨T2,fb⟩:∃T2,T2=cm++x.b2.flatMap (gB iY):=⟨_,rfl⟩;have nb:T2.length<=120:=by rw[fb,M3];omega
  rw[<- fb]at D;clear e5 lT hp e9 hc g1 ba hi;obtain⟨p2,o2,qX,rfl,hV⟩:=(kr.le b9).one;have lu:=hQ.1;have k6:=kA.yI;refine du (I:=λk e d s' N=>∃i:Nat,k=us.length- i/\i<=us.length/\e 2=aV c1 0/\e 3=aV c2 0/\e 10=.int .i64 i/\e 8=au (T2++(x.cf.take i).flatMap kQ)/\d=[]/\s'=sx/\h5.ar N) (λk e d s' N hI=> ?_) (m:=us.length) ⟨0,Y,Y,by simp[ak,l],by simp[ak,F],atA,by simp[ak,D],rfl,rfl,E⟩;clear E l F D;obtain⟨i,rfl,hi,l,F,bk,D,rfl,rfl,E⟩:=hI;have g1:=E _ _ eg;have lS:=qW (f:=kQ) (i:=i) (k:=52) (m:=4) (λa ha=>by have:=@Fq a;have:=(kA.load a ha).1;omega) k6;rcases vy i us.length with hc|hc
  .obtain⟨mb,rfl,arr,q,f,w',hm,hr⟩:=hV.resolve_left U;have gm:=E _ _ hm;have da:=hr i hc;have bd:decide ((i:Int)<us.length)=J:=atB
   have b0:i<x.cf.length:=U
   have A:=dE.le (b9.ay E) (hQ.2 i us[i] x.cf[i] Y Y);have l4:=(kA.load _ (N0 b0)).1;have n4:=k4.2.2 _ (N0 b0);have o4:∀p∈x.cf[i],p.1<=p.2:=λp hp=>by have:=(kA.load _ (N0 b0)).2 p hp;simp only[na,vh,decide_eq_true_eq]at this;exact this.2.2
   have W:=qU (f:=kQ) b0;generalize x.cf[i]=L at A l4 n4 o4 W;generalize(x.cf.take i).flatMap kQ=P at D W lS;obtain⟨a1,o1,z1,dH,fa,hZ,k8⟩:=id A;simp only[atJ]at hZ;subst hZ;rw[fa]at da;simp only[ah,seval,l,bk,g1,bd];refine du (I:=λk e d sx h2=>∃j sl M,k=4- j/\j<=4/\e 2=aV c1 0/\e 3=aV c2 0/\e 10=.int .i64 i/\e 8=au (T2++P)/\e 12=.int .i64 (j:Nat)/\e 11=sl/\d=[]/\sx=s'/\N.ar h2/\(∀d,M=C d->N d=o0)/\eB h2 sl 9 1 ((L.take j).map λp=>jO (nh p)) M) (λk e d sx h2 hI=> ?_) (m:=4) ⟨0,.slice o0 0 0,o0,Y,Y,by simp[ak,l],by simp[ak,F],by simp[ak,bk],by simp[ak,D],atA,atA,rfl,rfl,.cO _,(λ_ q=>by cases q),.nil⟩;clear l F D bk;obtain⟨j,sl,M,rfl,hj,l,F,bk,D,fc,h4,rfl,rfl,ec,h6,q⟩:=hI;obtain⟨a3,cQ,c3,rfl⟩:=q.slice;rcases vy j 4 with ef|ef
   .obtain⟨nz,rfl,ih,Q,f3,w3,k9,lb⟩:=k8.resolve_left U;have eo:j<L.length:=U
    have lf:=ec _ _ k9;have X:=lb j [bO L[j].1,bO L[j].2] (by simp[eo]);have bM:ih[o1+j*2]? =C (.int .i64 L[j].1):=X 0 _ rfl;have bE:ih[o1+j*2+1]? =C (.int .i64 L[j].2):=X 1 _ rfl;have lj:decide ((j:Int)<L.length)=J:=atB
    have nj:=n4 _ (N0 eo);have oj:=o4 _ (N0 eo);have jl:(L.take (j+1)).map (λp=>jO (nh p))=(L.take j).map (λp=>jO (nh p))++[jO (nh L[j])]:=by
     have:L.take (j+1)=L.take j++[L[j]]:=by rw[atC];simp[eo]
     rw[this,auu];rfl
    generalize L[j]=pr at X bM bE nj oj jl;simp only[ah,seval,l,bk,h4,fc,ec _ _ g1,ec _ _ gm,da,bd,lf,bM,bE,lj,decide_eq_true (U:(j:Int)<4)];refine cd aqV (aqX (p:=pr) nj.1 nj.2 oj) λgA h8 z ⟨B,az,lo⟩=> ?_;subst B;subst lo;simp only[ah,seval];refine yW λc6 ez j0 fl=> ?_;have bm:=bU j0 fl;have mX:=bw fl;simp only[ah,seval];refine pX (row:=jO (nh pr)) au4 jC Bg tA rfl aty aty aty (uV (h0:=h) (q.keep λd y _ hy=>az _ _ hy) j0 fl) rfl rfl atB (by rw[iX mX];rfl) λnD o6 ly k1 k2 q5=> ?_;obtain⟨a2,bR,lF,rfl⟩:=q5.slice;simp only[ah,seval,fc];have j2:=ec.ay (az.ay bm);refine⟨4- (j+1),U,j+1,.slice a2 bR lF,ly,rfl,U,l,F,bk,D,by simp[cq (x:=(j:Int)+1) U U],rfl,λd y hd=>k1 _ _ (λe=>by have:=h6 d e;rw[this]at hd;cases hd) (j2 _ _ hd),λd hd=> ?_,by rw[jl];exact q5⟩;rcases k2 with r|⟨bG,r,lG⟩
    .exact h6 d (r▸hd)
    .rw[r]at hd;cases hd;exact fh j2 lG
   .have l2:j=L.length:=U
    rw[l2,N3]at q;simp only[ah,seval,D,h4,fc,decide_eq_false (U:¬(j:Int)<4)];refine cd zj (zk (w:=lQ) (fs:=L.map nh) (NB q) ⟨aty,atB⟩ (λf hf=>by obtain⟨n,_,rfl⟩:=aui.1 hf;have:=@U1 n;omega)) λs6 h9 z2 ⟨B,G,q4⟩=> ?_;subst B;subst G;subst q4;rw[aqY];have lL:=@Fq L;have A1:∀{x y:su} {h:ae} [K:KK o5],al pv (bN .add 9 x y (au (T2++P)) (au (kQ L))) h=K.f (au ((T2++P)++kQ L)) h:=λ{x y h K}=>ma (by simp only[M3];omega);simp only[ah,seval,A1,bk];refine⟨us.length- (i+1),U,i+1,rfl,U,l,F,by simp[cq (x:=(i:Int)+1) U U],?_,E.ay ec⟩;rw[W,auN]
  .have ba:i=x.cf.length:=U
   rw[ba,N3]at D lS;have g2:=E _ _ e0;simp only[ah,seval,l,D,bk,decide_eq_false (U:¬(i:Int)<us.length),g1];refine cd zj (zk (w:=mN) (fs:=[]) fW.nil aty Y) λs6 h9 z2 ⟨B,G,q4⟩=> ?_;subst B;subst G;subst q4;have eG:tJ mN []=gB mN []:=rfl;rw[eG];have A1:∀{z y:su} {h:ae} [K:KK o5],al pv (bN .add 9 z y (au (T2++x.cf.flatMap kQ)) (au (gB mN []))) h=K.f (au ((T2++x.cf.flatMap kQ)++gB mN [])) h:=λ{z y h K}=>ma (by have:(gB mN []).length=7:=rfl;simp only[M3];omega);simp only[ah,seval,A1];obtain⟨P,ft⟩:∃P,P=T2++x.cf.flatMap kQ++gB mN []:=⟨_,rfl⟩;have nF:P.length<=400:=by rw[ft,M3,M3];have:(gB mN []).length=7:=rfl;omega
   rw[<- ft];clear hV lS bk hc hi ba D;obtain⟨pS,eA,zS,dS,l7,j3,j4⟩:=id (dE.le b9 kt);simp only[atJ]at j3;subst j3;subst l7;have ls:=pe.ns;have rs:=pe.st.1;refine du (I:=λk e d sx N=>∃i:Nat,k=y.db.length- i/\i<=y.db.length/\e 3=aV c2 0/\e 13=.int .i64 i/\e 8=au (P++(y.db.take i).flatMap kR)/\d=[]/\sx=s6/\h5.ar N) (λk e d sx N hI=> ?_) (m:=y.db.length) ⟨0,Y,Y,by simp[ak,F],atA,atA,rfl,rfl,E⟩;clear E F l;obtain⟨i,rfl,hi,F,er,D,rfl,rfl,E⟩:=hI;have g2:=E _ _ e0;have lS:=qW (f:=kR) (i:=i) (k:=40) (m:=4) (λa ha=>by
    have:=@pW (nT++32::a.name) [a.cX,a.size,a.gS];have hr:=rs a ha;simp only[pQ,gR,vh,decide_eq_true_eq]at hr;have:nT.length=5:=rfl;simp only[kR,M3,RF,auM]at*
    omega) ls
   rcases vy i y.db.length with hc|hc
   .obtain⟨mb,rfl,arr,q,f,w',hm,hr⟩:=j4.resolve_left U;have gm:=E _ _ hm;have W:=qU (f:=kR) hc;have X:=hr i [au y.db[i].name,bO y.db[i].cX,bO y.db[i].size,bO y.db[i].gS] (by simp[hc]);have rk:=rs _ (N0 hc);generalize y.db[i]=z at X rk W;generalize(y.db.take i).flatMap kR=H at D W lS;have a1:arr[eA+i*4]? =C (au z.name):=X 0 _ rfl;have a2:arr[eA+i*4+1]? =C (.int .i64 z.cX):=X 1 _ rfl;have a3:arr[eA+i*4+1+1]? =C (.int .i64 z.size):=X 2 _ rfl;have a4:arr[eA+i*4+1+1+1]? =C (.int .i64 z.gS):=X 3 _ rfl;have bd:decide ((i:Int)<y.db.length)=J:=atB
    have mA:z.name.length<=12:=by simp only[pQ,gR,vh,decide_eq_true_eq]at rk;omega
    have n4:=U4 rk;simp only[ah,seval,F,er,g2,gm,a1,a2,a3,a4,bd];intro dk h8 ee R;have g9:=bw R;have bb:=bU ee R;simp only[ah,seval,g9];intro h9 R;have fx:N.ar h9:=dM bb ee R;have g9:=bw R;clear R bb;have A2:∀{x y:su} {h:ae} [K:KK o5],al pv (bN .add 9 x y (au (P++H)) (au (kR z))) h=K.f (au ((P++H)++kR z)) h:=λ{x y h K}=>ma (by have:=@pW (nT++32::z.name) [z.cX,z.size,z.gS];have:nT.length=5:=rfl;simp only[kR,M3,RF,auM]at *;omega)
    simp only[seval,fI];intro t;refine Gc O O eR 0 16 O (λi v h=>match i with
     | 0=>v=au (P++H)
     | 1=>v=aV dk 0
     | 2=>v=au z.name
     | 3=>∃c,v=dn c 0 1 1/\h c=C ⟨.cells ⟨[au z.name]⟩ 9 (0,0),J⟩
     | 4=>v=aV dk 1
     | 5=>v=.int .i64 z.cX
     | 6=>v=aV dk 2
     | 7=>v=.int .i64 z.size
     | 8=>v=aV dk 3
     | 9=>v=.int .i64 z.gS
     | 10=>∃c,v=dn c 0 3 3/\h c=C ⟨.cells ⟨[bO z.cX,bO z.size,bO z.gS]⟩ 3 (0,0),J⟩
     | 11=>∃M,eB h v 9 1 ([z.cX,z.size,z.gS].map λn=>jO (dJ n)) M
     | 12=>fW h v (z.name::[z.cX,z.size,z.gS].map dJ)
     | 13=>v=au (kR z)
     | 14=>v=au ((P++H)++kR z)
     | 15=>v=au ((P++H)++kR z)
     |_=>True) (λi v h h' le q=> ?_) ?_ ?_ t
    .match i,q with
     | 0,q=>exact q
     | 1,q=>exact q
     | 2,q=>exact q
     | 4,q=>exact q
     | 5,q=>exact q
     | 6,q=>exact q
     | 7,q=>exact q
     | 8,q=>exact q
     | 9,q=>exact q
     | 13,q=>exact q
     | 14,q=>exact q
     | 15,q=>exact q
     | 3,⟨c,B,G⟩=>exact⟨c,B,le _ _ G⟩
     | 10,⟨c,B,G⟩=>exact⟨c,B,le _ _ G⟩
     | 11,⟨M,q⟩=>exact⟨M,q.keep λb x _ N=>le b x N⟩
     | 12,q=>exact dE.le le q
     |n+16,_=>trivial
    .intro i o hi g l ez bm un gf u;have G9:=bm _ _ g9;have u9:l 14=aV dk 0:=(un 14 rfl).trans atA
     match i,hi,g with
     | 0,_,g=>cases g;have x8:l 8=au (P++H):=(gf 15 8 rfl rfl).trans (by simp[ak,D]);simp only[ah,seval,x8];exact⟨_,rfl,.cO _,rfl⟩
     | 1,_,g=>cases g;simp only[ah,seval,u9];exact⟨_,rfl,.cO _,rfl⟩
     | 2,_,g=>cases g;have p1:l 95=_:=u 1 95 rfl rfl;simp only[ah,seval,p1,G9];exact⟨_,rfl,.cO _,rfl⟩
     | 3,_,g=>cases g;have p2:l 96=_:=u 2 96 rfl rfl;simp only[ah,seval,p2];refine yW λc h1 hc e1=> ?_;exact⟨rfl,_,rfl,rfl,bU hc e1,c,rfl,bw e1⟩
     | 4,_,g=>cases g;simp only[ah,seval,u9];exact⟨_,rfl,.cO _,rfl⟩
     | 5,_,g=>cases g;have p4:l 98=_:=u 4 98 rfl rfl;simp only[ah,seval,p4,G9];exact⟨_,rfl,.cO _,rfl⟩
     | 6,_,g=>cases g;simp only[ah,seval,u9];exact⟨_,rfl,.cO _,rfl⟩
     | 7,_,g=>cases g;have p6:l 100=_:=u 6 100 rfl rfl;simp only[ah,seval,p6,G9];exact⟨_,rfl,.cO _,rfl⟩
     | 8,_,g=>cases g;simp only[ah,seval,u9];exact⟨_,rfl,.cO _,rfl⟩
     | 9,_,g=>cases g;have p8:l 102=_:=u 8 102 rfl rfl;simp only[ah,seval,p8,G9];exact⟨_,rfl,.cO _,rfl⟩
     | 10,_,g=>cases g;have p5:l 99=_:=u 5 99 rfl rfl;have p7:l 101=_:=u 7 101 rfl rfl;have p9:l 103=_:=u 9 103 rfl rfl;simp only[ah,seval,p5,p7,p9];refine Fp λc h1 hc e1=> ?_;exact⟨rfl,_,rfl,rfl,bU hc e1,c,rfl,bw e1⟩
     | 11,_,g=>cases g;obtain⟨c,gy,gc⟩:=u 10 104 rfl rfl;simp only[ah,seval,gy];refine cd Gi (Gj (ig.built (ns:=[z.cX,z.size,z.gS]) gc) n4 Y) λgA h8 z ⟨B,az,M,Q,_⟩=> ?_;exact⟨rfl,_,rfl,B,az,M,Q⟩
     | 12,_,g=>cases g;obtain⟨c,p3,gc⟩:=u 3 97 rfl rfl;obtain⟨M,gz⟩:=u 11 105 rfl rfl;simp only[ah,seval,p3];refine Xc (fs:=[z.cX,z.size,z.gS].map dJ) rfl Y gc gz λv' h' rN q'=> ?_;exact⟨rfl,_,rfl,rfl,rN,q'⟩
     | 13,_,g=>cases g;have hg:fW _ (l 106) _:=u 12 106 rfl rfl;simp only[ah,seval];refine cd zj (zk (w:=nT) hg ⟨aty,Y⟩ (λf hf=>by rcases B4.1 hf with r|r;rw[r];omega;exact Gk f r)) λgA h8 z ⟨B,G,Q⟩=> ?_;subst G;exact⟨rfl,_,rfl,B,.cO _,Q.trans (congrArg au Xa)⟩
     | 14,_,g=>cases g;have p0:l 94=au (P++H):=u 0 94 rfl rfl;have hh:l 107=au (kR z):=u 13 107 rfl rfl;simp only[ah,seval,p0,hh,A2];exact⟨_,rfl,.cO _,rfl⟩
     | 15,_,g=>cases g;have hl:l 108=au ((P++H)++kR z):=u 14 108 rfl rfl;simp only[ah,seval,hl];exact⟨_,rfl,.cO _,rfl⟩
     |n+16,hi,_=>omega
    .intro l ez bm un u;have x8:l 8=au ((P++H)++kR z):=u 15 8 aty rfl;have x3:l 3=aV c2 0:=(un 3 rfl).trans (by simp[ak,F]);have xi:l 13=.int .i64 i:=(un 13 rfl).trans (by simp[ak,er]);rw[av5 aty];simp only[ah,seval,xi];refine⟨y.db.length- (i+1),U,i+1,rfl,U,x3,by simp[cq (x:=(i:Int)+1) U U],?_,E.ay (fx.ay bm)⟩;rw[W,<- auN];exact x8
   .have ba:i=y.db.length:=U
    rw[ba,N3]at D lS;simp only[ah,seval,F,er,decide_eq_false (U:¬(i:Int)<y.db.length),g2];obtain⟨T4,hz⟩:∃T4,T4=P++y.db.flatMap kR:=⟨_,rfl⟩;have n7:T4.length<=600:=by rw[hz,M3];omega
    rw[<- hz]at D;clear j4 lS er hc hi ba g2;obtain⟨pA,eE,zA,dA,mL,kg,mS⟩:=id (dE.le b9 kx);simp only[atJ]at kg;subst kg;subst mL;have la:=pe.wF;have ra:=pe.wx.1;refine du (I:=λk e d s' N=>∃i:Nat,k=y.c7.length- i/\i<=y.c7.length/\e 3=aV c2 0/\e 15=.int .i64 i/\e 8=au (T4++(y.c7.take i).flatMap kz)/\d=[]/\s'=sx/\h5.ar N) (λk e d s' N hI=> ?_) (m:=y.c7.length) ⟨0,Y,Y,by simp[ak,F],atA,by simp[ak,D],rfl,rfl,E⟩;clear E F D;obtain⟨i,rfl,hi,F,hD,D,rfl,rfl,E⟩:=hI;have g2:=E _ _ e0;have lS:=qW (f:=kz) (i:=i) (k:=40) (m:=6) (λa ha=>by
     have:=@pW (nU++32::a.name) [a.size,a.ff,a.cX];have hr:=ra a ha;simp only[pR,gR,vh,decide_eq_true_eq]at hr;have:nU.length=6:=rfl;simp only[kz,M3,RF,auM]at*
     omega) la
    rcases vy i y.c7.length with hc|hc
    .obtain⟨mb,rfl,arr,q,f,w',hm,hr⟩:=mS.resolve_left U;have gm:=E _ _ hm;have W:=qU (f:=kz) hc;have X:=hr i [au y.c7[i].name,bO y.c7[i].size,bO y.c7[i].ff,bO y.c7[i].cX] (by simp[hc]);have rk:=ra _ (N0 hc);generalize y.c7[i]=z at X rk W;generalize(y.c7.take i).flatMap kz=H at D W lS;have a1:arr[eE+i*4]? =C (au z.name):=X 0 _ rfl;have a2:arr[eE+i*4+1]? =C (.int .i64 z.size):=X 1 _ rfl;have a3:arr[eE+i*4+1+1]? =C (.int .i64 z.ff):=X 2 _ rfl;have a4:arr[eE+i*4+1+1+1]? =C (.int .i64 z.cX):=X 3 _ rfl;have bd:decide ((i:Int)<y.c7.length)=J:=atB
     have mA:z.name.length<=12:=by simp only[pR,gR,vh,decide_eq_true_eq]at rk;omega
     have n4:=U5 rk;simp only[ah,seval,F,hD,g2,gm,a1,a2,a3,a4,bd];intro dk h8 ee R;have g9:=bw R;have bb:=bU ee R;simp only[ah,seval,g9];intro h9 R;have fx:N.ar h9:=dM bb ee R;have g9:=bw R;clear R bb;have A2:∀{x y:su} {h:ae} [K:KK o5],al pv (bN .add 9 x y (au (T4++H)) (au (kz z))) h=K.f (au ((T4++H)++kz z)) h:=λ{x y h K}=>ma (by have:=@pW (nU++32::z.name) [z.size,z.ff,z.cX];have:nU.length=6:=rfl;simp only[kz,M3,RF,auM]at *;omega)
     simp only[seval,fI];intro t;refine Gc O O eR 0 16 O (λi v h=>match i with
      | 0=>v=au (T4++H)
      | 1=>v=aV dk 0
      | 2=>v=au z.name
      | 3=>∃c,v=dn c 0 1 1/\h c=C ⟨.cells ⟨[au z.name]⟩ 9 (0,0),J⟩
      | 4=>v=aV dk 1
      | 5=>v=.int .i64 z.size
      | 6=>v=aV dk 2
      | 7=>v=.int .i64 z.ff
      | 8=>v=aV dk 3
      | 9=>v=.int .i64 z.cX
      | 10=>∃c,v=dn c 0 3 3/\h c=C ⟨.cells ⟨[bO z.size,bO z.ff,bO z.cX]⟩ 3 (0,0),J⟩
      | 11=>∃M,eB h v 9 1 ([z.size,z.ff,z.cX].map λn=>jO (dJ n)) M
      | 12=>fW h v (z.name::[z.size,z.ff,z.cX].map dJ)
      | 13=>v=au (kz z)
      | 14=>v=au ((T4++H)++kz z)
      | 15=>v=au ((T4++H)++kz z)
      |_=>True) (λi v h h' le q=> ?_) ?_ ?_ t
     .match i,q with
      | 0,q=>exact q
      | 1,q=>exact q
      | 2,q=>exact q
      | 4,q=>exact q
      | 5,q=>exact q
      | 6,q=>exact q
      | 7,q=>exact q
      | 8,q=>exact q
      | 9,q=>exact q
      | 13,q=>exact q
      | 14,q=>exact q
      | 15,q=>exact q
      | 3,⟨c,B,G⟩=>exact⟨c,B,le _ _ G⟩
      | 10,⟨c,B,G⟩=>exact⟨c,B,le _ _ G⟩
      | 11,⟨M,q⟩=>exact⟨M,q.keep λb x _ N=>le b x N⟩
      | 12,q=>exact dE.le le q
      |n+16,_=>trivial
     .intro i o hi g l ez bm un gf u;have G9:=bm _ _ g9;have u9:l 16=aV dk 0:=(un 16 rfl).trans atA
      match i,hi,g with
      | 0,_,g=>cases g;have x8:l 8=au (T4++H):=(gf 15 8 rfl rfl).trans (by simp[ak,D]);simp only[ah,seval,x8];exact⟨_,rfl,.cO _,rfl⟩
      | 1,_,g=>cases g;simp only[ah,seval,u9];exact⟨_,rfl,.cO _,rfl⟩
      | 2,_,g=>cases g;have p1:l 122=_:=u 1 122 rfl rfl;simp only[ah,seval,p1,G9];exact⟨_,rfl,.cO _,rfl⟩
      | 3,_,g=>cases g;have p2:l 123=_:=u 2 123 rfl rfl;simp only[ah,seval,p2];refine yW λc h1 hc e1=> ?_;exact⟨rfl,_,rfl,rfl,bU hc e1,c,rfl,bw e1⟩
      | 4,_,g=>cases g;simp only[ah,seval,u9];exact⟨_,rfl,.cO _,rfl⟩
      | 5,_,g=>cases g;have p4:l 125=_:=u 4 125 rfl rfl;simp only[ah,seval,p4,G9];exact⟨_,rfl,.cO _,rfl⟩
      | 6,_,g=>cases g;simp only[ah,seval,u9];exact⟨_,rfl,.cO _,rfl⟩
      | 7,_,g=>cases g;have p6:l 127=_:=u 6 127 rfl rfl;simp only[ah,seval,p6,G9];exact⟨_,rfl,.cO _,rfl⟩
      | 8,_,g=>cases g;simp only[ah,seval,u9];exact⟨_,rfl,.cO _,rfl⟩
      | 9,_,g=>cases g;have p8:l 129=_:=u 8 129 rfl rfl;simp only[ah,seval,p8,G9];exact⟨_,rfl,.cO _,rfl⟩
      | 10,_,g=>cases g;have p5:l 126=_:=u 5 126 rfl rfl;have p7:l 128=_:=u 7 128 rfl rfl;have p9:l 130=_:=u 9 130 rfl rfl;simp only[ah,seval,p5,p7,p9];refine Fp λc h1 hc e1=> ?_;exact⟨rfl,_,rfl,rfl,bU hc e1,c,rfl,bw e1⟩
      | 11,_,g=>cases g;obtain⟨c,gy,gc⟩:=u 10 131 rfl rfl;simp only[ah,seval,gy];refine cd Gi (Gj (ig.built (ns:=[z.size,z.ff,z.cX]) gc) n4 Y) λgA h8 z ⟨B,az,M,Q,_⟩=> ?_;exact⟨rfl,_,rfl,B,az,M,Q⟩
      | 12,_,g=>cases g;obtain⟨c,p3,gc⟩:=u 3 124 rfl rfl;obtain⟨M,gz⟩:=u 11 132 rfl rfl;simp only[ah,seval,p3];refine Xc (fs:=[z.size,z.ff,z.cX].map dJ) rfl Y gc gz λv' h' rN q'=> ?_;exact⟨rfl,_,rfl,rfl,rN,q'⟩
      | 13,_,g=>cases g;have hg:fW _ (l 133) _:=u 12 133 rfl rfl;simp only[ah,seval];refine cd zj (zk (w:=nU) hg ⟨aty,Y⟩ (λf hf=>by rcases B4.1 hf with r|r;rw[r];omega;exact Gk f r)) λgA h8 z ⟨B,G,Q⟩=> ?_;subst G;exact⟨rfl,_,rfl,B,.cO _,Q.trans (congrArg au Xa)⟩
      | 14,_,g=>cases g;have p0:l 121=au (T4++H):=u 0 121 rfl rfl;have hh:l 134=au (kz z):=u 13 134 rfl rfl;simp only[ah,seval,p0,hh,A2];exact⟨_,rfl,.cO _,rfl⟩
      | 15,_,g=>cases g;have hl:l 135=au ((T4++H)++kz z):=u 14 135 rfl rfl;simp only[ah,seval,hl];exact⟨_,rfl,.cO _,rfl⟩
      |n+16,hi,_=>omega
     .intro l ez bm un u;have x8:l 8=au ((T4++H)++kz z):=u 15 8 aty rfl;have x3:l 3=aV c2 0:=(un 3 rfl).trans (by simp[ak,F]);have xi:l 15=.int .i64 i:=(un 15 rfl).trans (by simp[ak,hD]);rw[av5 aty];simp only[ah,seval,xi];refine⟨y.c7.length- (i+1),U,i+1,rfl,U,x3,by simp[cq (x:=(i:Int)+1) U U],?_,E.ay (fx.ay bm)⟩;rw[W,<- auN];exact x8
    .have ba:i=y.c7.length:=U
     rw[ba,N3]at D;simp only[ah,seval,F,D,hD,decide_eq_false (U:¬(i:Int)<y.c7.length),g2];have eT:T4++y.c7.flatMap kz=tz x y:=by simp only[hz,ft,fb,hT,tz,auN]
     exact gT aAW Y Y ⟨rfl,b9.ay E,.inl ⟨⟨kA,pe⟩,by rw[<- eT];simp[ak]⟩⟩
end
end
end Go.Nk
