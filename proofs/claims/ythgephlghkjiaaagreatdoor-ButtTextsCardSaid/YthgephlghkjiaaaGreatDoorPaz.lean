/- Part Paz of the proof of ButtTexts: lemmas. -/
import Derived.Test.YthgephlghkjiaaaGreatDoorPay
set_option maxRecDepth 100000
set_option maxHeartbeats 4000000
set_option linter.all false
namespace Go.Nk
noncomputable section
open Go Go.Conc Go.Proofs
open Bool renaming true->J,false->q9,false_ne_true->W3
open Go renaming Value->o5,Addr->vm,Code->rj
open Go.Instr renaming endRound->ave,endLoop->av4,enterLoop->aw5,sliceAt->K0,build->atW
open Go.Proofs.Tryz renaming prog->pv,results74->aw9,underlying98->au4,results111->aAU
open List renaming mem_cons->B4,count_le_length->aya,length_cons->RF,drop_succ_cons->av9,drop_zero->avA,drop_drop->awb
open Nat renaming le_trans->atD,add_zero->asg
open Option renaming none->o0,some->C
def fr.cons{h0 h:ae}{B M:List Nat}{aW sv bT bV:o5}{x:bY}{y:Ground}{c:Nat}{z:dL}(q:fr h0 h B M aW sv bT bV x y)(hc:h c=o0):fr h0 (h.put c z) (c::B) (c::M) aW sv bT bV x y:=by
 obtain⟨s,t,u,ao,v,A,D,m,n,f,g,i,j,o,p⟩:=q;have cP:∀b w,h b=C w->(h.put c z) b=C w:=λb w a=>by rw[bx (λe=>by subst e;rw[hc]at a;cases a)];exact a
 have l:(aZ h0 M h).ar (aZ h0 (c::M) (h.put c z)):=λb w a=>by
  unfold aZ at a ⊢;by_cases e:b∈M\/(h0 b).isSome=J
  .rw[if_pos e]at a;cases a
  .rw[if_neg e]at a;have k:b≠c:=λe=>by subst e;rw[hc]at a;cases a
   rw[if_neg (λq=>e (q.imp (λq=>(B4.1 q).elim (λq=>(k q).elim) id) id)),bx k];exact a
 refine⟨λd hd=> ?_,t,u,ao,v,A,D,by rw[m];rfl,λd hd=> ?_,f.keep λb w _ a=>cP b w a,g.keep λb w _ a=>cP b w a,i.keep λb w _ a=>cP b w a,j.keep λb w _ a=>cP b w a,o.imp λ_ _ r=>iZ.le l r,p.imp λ_ _ r=>jD.le l r⟩
 .rcases B4.1 hd with e|e
  .subst e;exact⟨_,cI⟩
  .obtain⟨w,a⟩:=s d e;exact⟨w,cP _ _ a⟩
 .intro q;rcases B4.1 q with e|e
  .subst e;have:∃w,h d=C w:=by
    rcases hd with r|r|r|r
    .rw[r]at f;obtain⟨_,e⟩:=f.own;exact⟨_,e⟩
    .rw[r]at g;obtain⟨_,e⟩:=g.own;exact⟨_,e⟩
    .rw[r]at i;obtain⟨_,e⟩:=i.own;exact⟨_,e⟩
    .rw[r]at j;obtain⟨_,e⟩:=j.own;exact⟨_,e⟩
   obtain⟨w,a⟩:=this;rw[hc]at a;cases a
  .exact n d hd e
def fr.WS{h0 h:ae}{B M:List Nat}{aW sv bT bV:o5}{x:bY}{y:Ground}{c:Nat}(q:fr h0 h (c::B) M aW sv bT bV x y):∃k,M=c::k/\fr h0 h B k aW sv bT bV x y:=by
 obtain⟨v,z,A,ao,f,g,i,j,m,n,o,p,s,t,u⟩:=q;refine⟨B++(ao.toList++(f.toList++(g.toList++i.toList))),j,λd hd=>v d (by simp[hd]),z,A,ao,f,g,i,rfl,λd hd q=>m d hd (by simp[q]),n,o,p,s,?_,?_⟩
 all_goals
  have l:(aZ h0 M h).ar (aZ h0 (B++(ao.toList++(f.toList++(g.toList++i.toList)))) h):=λb w a=>by
   unfold aZ at a ⊢;by_cases e:b∈M\/(h0 b).isSome=J
   .rw[if_pos e]at a;cases a
   .rw[if_neg e]at a;rw[if_neg (λq=>e (q.imp (λq=>by rw[j];simp only[List.cons_append];exact List.mem_cons_of_mem _ q) id))];exact a
 .exact t.imp λ_ _ r=>iZ.le l r
 .exact u.imp λ_ _ r=>jD.le l r
structure jS(h:ae)(M B:List Nat)(h':ae)(cv:List Nat):Prop where
 cH:∀d∈B,∃z,h d=C z
 out:∀d z,d∉M->h d=C z->h' d=C z
 cZ:∀d,d∈cv->d∈M\/h d=o0
 eC:∀d∈B,h' d=h d
def jS.cO{h:ae}{M B:List Nat}(a:∀d∈B,∃z,h d=C z):jS h M B h M:=⟨a,λ_ _ _ e=>e,λ_ e=>.inl e,λ_ _=>rfl⟩
def jS.le{h h1 c:ae}{M cv B:List Nat}(q:jS h M B h1 cv)(le:h1.ar c):jS h M B c cv:=⟨q.cH,λd z a b=>le _ _ (q.out d z a b),q.cZ,λd hd=>by obtain⟨z,e⟩:=q.cH d hd;have:=q.eC d hd;rw[e]at this ⊢;exact le _ _ this⟩
def jS.cons{h h1:ae}{M f B:List Nat}{c:Nat}{z:dL}(q:jS h M B h1 f)(hc:h c=o0):jS h M B (h1.put c z) (c::f):=⟨q.cH,λd w a b=>by
 rw[bx (λe=>by subst e;rw[hc]at b;cases b)];exact q.out d w a b,λd hd=>(B4.1 hd).elim (λe=>.inr (e▸hc)) (q.cZ d),λd hd=>(by
 obtain⟨w,g⟩:=q.cH d hd;rw[bx (λe=>by subst e;rw[hc]at g;cases g)];exact q.eC d hd)⟩
def jS.put{h h1:ae}{M cv B:List Nat}{c:Nat}{z:dL}(q:jS h M B h1 cv)(hc:h c=o0):jS h M B (h1.put c z) cv:=by obtain⟨a,b,bJ,d⟩:=q.cons (z:=z) hc;exact⟨a,b,q.cZ,d⟩
def jS.app{h h1 c:ae}{M f M2 B B':List Nat}(q:jS h M B h1 f)(i:∀d∈B,d∈B')(out:∀d z,d∉f->h1 d=C z->c d=C z)(j:∀d,d∈M2->d∈f\/h1 d=o0)(k:∀d∈B',c d=h1 d):jS h M B c M2:=by
 refine⟨q.cH,λd z a b=>out d z (λe=> ?_) (q.out d z a b),λd hd=> ?_,λd hd=>(k d (i d hd)).trans (q.eC d hd)⟩
 .rcases q.cZ d e with e|e
  .exact a e
  .rw[b]at e;cases e
 .rcases j d hd with e|e
  .exact q.cZ d e
  .by_cases g:d∈M
   .exact .inl g
   .cases l:h d with
    |none=>exact .inr rfl
    |some z=>rw[q.out d z g l]at e;cases e
def jS.drop{h h1:ae}{M cv B:List Nat}{c:Nat}(q:jS h M B h1 (c::cv)):jS h M B h1 cv:=⟨q.cH,q.out,λd hd=>q.cZ d (by simp[hd]),q.eC⟩
section
def eQ:(wB pv 109=J/\rV pv 109=7/\mh pv 109=7/\(cu pv 109).isSome=J)/\(wz pv 109 0=J/\wA pv 109 0=0)/\(wz pv 109 1=J/\wA pv 109 1=4)/\(wz pv 109 2=J/\wA pv 109 2=6)/\(uL pv 109=J/\qR pv 109=[.slice o0 0 0,.slice o0 0 0,.int .i64 0,.int .i64 0,.slice o0 0 0,.slice o0 0 0,.int .i64 0].toArray):=⟨cU 109 7,⟨O,O⟩,⟨O,O⟩,⟨O,O⟩,O,O⟩
def qc(aW sv:o5)(b gr:Int)(bT bV:o5)(a:Int):o5:=.agg #[aW,sv,.int .i64 b,.int .i64 gr,bT,bV,.int .i64 a]
def fY(aW sv:o5)(b gr:Int)(bT bV:o5)(a:Int):dL:=⟨.cells #[aW,sv,.int .i64 b,.int .i64 gr,bT,bV,.int .i64 a] 109 (0,0),J⟩
abbrev ap5(h0 h:ae)(B M:List Nat)(a:Acc)(e:Int)(l:List UInt8)(h':ae)(aW sv bT bV:o5)(d:List Nat)(b:bY)(g:Ground)(r:Int):Prop:=((∃a n c,aW=.slice a n c)/\(∃a n c,sv=.slice a n c)/\(∃a n c,bT=.slice a n c)/\∃a n c,bV=.slice a n c)/\fr h0 h' B d aW sv bT bV b g/\jS h M B h' d/\((iO l=o0/\r= -1)\/∃n,iO l=C n/\r=(jP n:Int)- 1/\b=(a.step n).b/\g=(a.step n).g)
abbrev WT(h0 h:ae)(B M:List Nat)(a:Acc)(c:Int)(l:List UInt8)(h':ae)(z:o5):Prop:=∃aW sv bT bV d b g r,z=.tuple #[qc aW sv b.cW b.cS bT bV c,.int .i64 r]/\ap5 h0 h B M a c l h' aW sv bT bV d b g r
def tI(l:List UInt8):Int:=match iO l with
 |none=> -1
 |some n=>(jP n:Int)- 1
def iZ.keep{h h':ae}{v:o5}{l:List Int}(k:∀m arr f w,h m=C ⟨.cells arr 3 f,w⟩->h' m=h m)(q:iZ h v l):iZ h' v l:=by
 obtain⟨⟨b,o,n,c,e,j,hb⟩,ty⟩:=q;refine⟨⟨b,o,n,c,e,j,hb.imp id λ⟨m,a,arr,q,f,w,r,p⟩=> ?_⟩,λA s bJ a=> ?_⟩
 .obtain⟨d,i,w',g⟩:=ty A s bJ a;exact⟨d,i,w',by rw[k _ _ _ _ g];exact g⟩
 .subst e;subst a;obtain⟨d,i,w',g⟩:=ty _ _ _ rfl;exact⟨m,rfl,arr,q,f,w,by rw[k m _ _ _ g];exact r,p⟩
def jD.keep{h h':ae}{v:o5}{l:List (Int×Int)}(k:∀m arr f w,h m=C ⟨.cells arr 63 f,w⟩->h' m=h m)(q:jD h v l):jD h' v l:=by
 obtain⟨⟨b,o,n,c,e,j,hb⟩,ty⟩:=q;refine⟨⟨b,o,n,c,e,j,hb.imp id λ⟨m,a,arr,q,f,w,r,p⟩=> ?_⟩,λA s bJ a=> ?_⟩
 .obtain⟨d,i,w',g⟩:=ty A s bJ a;exact⟨d,i,w',by rw[k _ _ _ _ g];exact g⟩
 .subst e;subst a;obtain⟨d,i,w',g⟩:=ty _ _ _ rfl;exact⟨m,rfl,arr,q,f,w,by rw[k m _ _ _ g];exact r,p⟩
def fr.ty{h0 h:ae}{B M:List Nat}{aW sv bT bV:o5}{x:bY}{y:Ground}{c:Nat}{arr:Array o5}{f:Nat×Nat}{w:Bool}{z:dL}(q:fr h0 h B M aW sv bT bV x y)(g:h c=C ⟨.cells arr 109 f,w⟩):fr h0 (h.put c z) B M aW sv bT bV x y:=by
 obtain⟨I,K,L,ao,N,P,Q,s,u,v,A,D,E,F,G⟩:=q;have own:∀{k:o5} {i l:Nat} {n:List (List o5)} {cE:Option Nat},i≠109->eB h k i l n cE->eB (h.put c z) k i l n cE:=λ{k i l n cE} ne q=>q.keep λb y hb H=>by subst hb;obtain⟨a,e⟩:=q.own;rw[bx (λo=>by subst o;rw[g]at e;cases e;exact ne rfl)];exact H
 have mk:∀{t m:Nat} {a:Array o5} {j:Nat×Nat} {w':Bool},t≠109->aZ h0 M h m=C ⟨.cells a t j,w'⟩->aZ h0 M (h.put c z) m=aZ h0 M h m:=λ{t m a j w'} ne e=>by
  have p:h m=C ⟨.cells a t j,w'⟩:=Nq _ _ e;have:m≠c:=λo=>by subst o;rw[g]at p;cases p;exact ne rfl
  unfold aZ;rw[bx this]
 refine⟨λd hd=> ?_,K,L,ao,N,P,Q,s,u,own aty v,own aty A,own aty D,own aty E,F.imp λ_ _ r=>r.keep λm _ _ _ e=>mk aty e,G.imp λ_ _ r=>r.keep λm _ _ _ e=>mk aty e⟩;by_cases e:d=c
 .subst e;exact⟨_,cI⟩
 .rw[bx e];exact I d hd
end
section
variable{main:Bool}{ai:Type}{S:Sys ai}{s:ai}{h:ae}
def ap6:bz pv 44=J:=O
def WU{l:List UInt8}{w:List UInt8}{r:List (List UInt8)}(e:cz 32 l=w::r)(a:l.length<=90000):r.length<=90000/\∀f∈r,f.length<=90000:=by have h1:=uT (w:=32) (l:=l);have c:l.count 32<=l.length:=aya;rw[e,RF]at h1;exact⟨U,λf b=>atD (ze (w:=32) (l:=l) (by rw[e];simp[b])) a⟩
def ap7{l:List UInt8}(hl:l.length<=90000){h0:ae}{B M:List Nat}{aW sv bT bV:o5}{a:Acc}{L:Int}(Q:fr h0 h B M aW sv bT bV a.b a.g)(ll:h0.ar h)
  (sl:(∃a n c,aW=.slice a n c)/\(∃a n c,sv=.slice a n c)/\(∃a n c,bT=.slice a n c)/\∃a n c,bV=.slice a n c) (bd:a.b.b2.length<=90000/\a.b.cf.length<=90000/\a.g.db.length<=90000/\a.g.c7.length<=90000):
  bo pv main S 44 #[qc aW sv a.b.cW a.b.cS bT bV L,au l] s h λs' h' z=>s'=s/\WT h0 h B M a L l h' z:=by
 refine bL (args:=[qc aW sv a.b.cW a.b.cS bT bV L,au l]) Tryz.func44 (by delta Tryz.f44;rfl) Tryz.ntmps44 Y O ?_;obtain⟨⟨a1,bK,H,rfl⟩,⟨a2,bR,G,rfl⟩,⟨a3,cQ,D,rfl⟩,F,n4,E,rfl⟩:=sl;simp only[ah,seval,qc,eQ];intro c2 h2 cm k c4 h3 eh e4;have Q2:=Q.cons (z:=fY (.slice a1 bK H) (.slice a2 bR G) a.b.cW a.b.cS (.slice a3 cQ D) (.slice F n4 E) L) cm;have F2:=(jS.cO (M:=M) Q.cH).cons (z:=fY (.slice a1 bK H) (.slice a2 bR G) a.b.cW a.b.cS (.slice a3 cQ D) (.slice F n4 E) L) cm;rw[show h.put c2 (fY (.slice a1 bK H) (.slice a2 bR G) a.b.cW a.b.cS (.slice a3 cQ D) (.slice F n4 E) L)=h2 from k.symm]at Q2 F2;have kn:h c4=o0:=fh (bU cm k) eh;have Q3:=Q2.cons (z:=⟨.cells #[.slice o0 0 0,.slice o0 0 0,.int .i64 0,.int .i64 0,.slice o0 0 0,.slice o0 0 0,.int .i64 0] 109 (0,0),J⟩) eh;have F3:=F2.cons (z:=⟨.cells #[.slice o0 0 0,.slice o0 0 0,.int .i64 0,.int .i64 0,.slice o0 0 0,.slice o0 0 0,.int .i64 0] 109 (0,0),J⟩) kn;rw[<- e4]at Q3 F3;have N:=bU eh e4 _ _ (bw k);have I:=bw e4;have kr:h0.ar h3:=ll.ay ((bU cm k).ay (bU eh e4));have fb:c4≠c2:=λe=>by rw[e,bw k]at eh;cases eh
 clear k e4 Q2 F2;have a8:∀(e:Env) (hE hF:ae) (ME:List Nat) (ek en eo ep:Option vm) (er et eu ey eA eE eG eL:Nat) (b:bY) (g:Ground) (r:Int) (y:dL),e 4=aV c4 0->e 5=.int .i64 r->hE c4=C y->hF=hE.put c4 ⟨.cells #[.slice ek er eA,.slice en et eE,.int .i64 b.cW,.int .i64 b.cS,.slice eo eu eG,.slice ep ey eL,.int .i64 L] 109 (0,0),J⟩->fr h0 hE (c4::c2::B) ME (.slice ek er eA) (.slice en et eE) (.slice eo eu eG) (.slice ep ey eL) b g->jS h M B hE ME->
   ((iO l=o0/\r= -1)\/∃n,iO l=C n/\r=(jP n:Int)- 1/\b=(a.step n).b/\g=(a.step n).g)->dT pv Tryz.f44 (λs' h' z=>s'=s/\WT h0 h B M a L l h' z) 143 e [] s hF:=by
  intro e hE hF ME ek en eo ep er et eu ey eA eE eG eL b g r y x4 x5 gy eF QE FE hr;have QF:=QE.put (c:=c4) (z:=⟨.cells #[.slice ek er eA,.slice en et eE,.int .i64 b.cW,.int .i64 b.cS,.slice eo eu eG,.slice ep ey eL,.int .i64 L] 109 (0,0),J⟩) Y;have FF:=FE.put (c:=c4) (z:=⟨.cells #[.slice ek er eA,.slice en et eE,.int .i64 b.cW,.int .i64 b.cS,.slice eo eu eG,.slice ep ey eL,.int .i64 L] 109 (0,0),J⟩) kn;rw[<- eF]at QF FF;obtain⟨M1,rfl,Q1⟩:=QF.WS;obtain⟨M0,rfl,Q0⟩:=Q1.WS;exact FO Tryz.results44 Y Y (c:=c4) (v:=qc (.slice ek er eA) (.slice en et eE) b.cW b.cS (.slice eo eu eG) (.slice ep ey eL) L) x4 (ni O (bw eF) rfl) ⟨rfl,_,_,_,_,M0,b,g,r,by rw[x5],⟨⟨_,_,_,rfl⟩,⟨_,_,_,rfl⟩,⟨_,_,_,rfl⟩,_,_,_,rfl⟩,Q0,FF.drop.drop,hr⟩
 refine cd apg (apj hl) λs4 h5 z ⟨q1,dx,q3⟩=> ?_;subst q1;rcases q3 with⟨hH,rfl⟩|⟨hH,w,r,m,o,n,cp,hs,rfl,lE,qr⟩
 .have N:=dx _ _ N;have I:=dx _ _ I;simp only[ah,seval,dg,N,eQ];simp only[ah,seval,I,eQ];intro h6 e6;exact a8 _ h5 h6 _ a1 a2 a3 F bK bR cQ n4 H G D E a.b a.g (-1) _ atA atA I e6 (Q3.le dx) (F3.le dx) (.inl ⟨WC hH,rfl⟩)
 obtain⟨hI,hJ⟩:=WU hs hl;have X:=WE hH hs;simp only[ah,seval,dg];refine cd VT (VU qr hI hJ) λgA h6 z ⟨q1,gI,q3⟩=> ?_;subst q1;have kN:=dE.le gI qr;have nr:n=r.length:=(fW.get qr).1;obtain⟨b0,a9,n9,k9,ez,qa⟩:∃b0 a9 n9 k9,z=.tuple #[.slice a9 n9 k9,.bool b0]/\((b0=q9/\dZ dP r=o0)\/(b0=J/\∃ns,dZ dP r=C ns/\iZ h6 (.slice a9 n9 k9) ns/\∀A,a9=C A->h5 A.block=o0)):=by
  rcases q3 with⟨x1,x2⟩|⟨ns,a,n,c,x1,x2,x3,x4⟩
  .exact⟨q9,o0,0,0,x2,.inl ⟨rfl,x1⟩⟩
  .exact⟨J,a,n,c,x2,.inr ⟨rfl,ns,x1,x3,x4⟩⟩
 clear q3;subst ez;simp only[ah,seval,dg];refine cd ap1 (ap3 kN lE hI hJ) λs6 h7 z ⟨q1,fc,cr,oj,k5,dd,k6,q3,q4,q5,q6⟩=> ?_;subst q1;subst q3;have fg:=dx.ay (gI.ay fc);have Q7:=Q3.le fg;have F7:=F3.le fg;have N:=fg _ _ N;have I:=fg _ _ I;have nD:=kr.ay fg;have lL:=dE.le fc kN;have hg:∀{A:vm},h5 A.block=o0->A.block∉(c4::c2::M)/\h0 A.block=o0:=λ{A} e=>⟨λhm=>(by obtain⟨z,hz⟩:=Q3.lt _ hm;rw[dx _ _ hz]at e;cases e),fh (kr.ay dx) e⟩
 have lT:∀{A:vm},h7 A.block=o0->A.block∉(c4::c2::M)/\h0 A.block=o0:=λ{A} e=>hg (fh (gI.ay fc) e);have nF:∀{A:vm},h6 A.block=o0->A.block∉(c4::c2::M)/\h0 A.block=o0:=λ{A} e=>hg (fh gI e);clear Q3 F3;simp only[ah,seval,dg,gg];by_cases hw:w=pV
 .have ew:(w==[98,111,115,115])=J:=by rw[hw];rfl
  have b8:iN w r=tG r:=by unfold iN;rw[if_pos hw]
  rw[b8]at X;simp only[ah,seval,ew];rcases qa with⟨rfl,ab⟩|⟨rfl,ns,ab,qi,qf⟩
  .simp only[ah,seval];simp only[ah,seval,N,eQ];simp only[ah,seval,I,eQ];intro h8 e8;exact a8 _ h7 h8 _ a1 a2 a3 F bK bR cQ n4 H G D E a.b a.g (-1) _ atA atA I e8 Q7 F7 (.inl ⟨X.trans (Nu (.inl ab)),rfl⟩)
  have e0:n9=ns.length:=(ig.get qi.1).1;by_cases l2:ns.length=2
  case neg=>
   have e9:((n9:Int)==2)=q9:=by rw[beq_eq_false_iff_ne];omega
   simp only[ah,seval,e9];simp only[ah,seval,N,eQ];simp only[ah,seval,I,eQ];intro h8 e8;exact a8 _ h7 h8 _ a1 a2 a3 F bK bR cQ n4 H G D E a.b a.g (-1) _ atA atA I e8 Q7 F7 (.inl ⟨X.trans (Nu (.inr (by have:=ph ab;omega))),rfl⟩)
  have e9:((n9:Int)==2)=J:=by rw[beq_iff_eq];omega
  obtain⟨x,y,rfl⟩:=WG l2;have hb:tG r=C (.mG x y):=by unfold tG;rw[ab]
  obtain⟨_,rr⟩:=(ig.get (dE.le fc qi.1));obtain⟨mb,o9,rfl,arr,ty,f,ow,hm,hr⟩:=rr.resolve_left Y;have y0:=hr 0 x rfl;have y1:=hr 1 y rfl;rw[asg]at y0;have ft:n9=2:=e0;subst ft;have lb:mb≠c2:=λe=>by have:=(qf _ rfl);rw[e]at this;exact(hg (A:=⟨c2,0,o0⟩) this).1 Y
  simp only[ah,seval,fI];intro t;have b0:(decide ((0:Int)<=0)&&decide ((0:Int)<((2:Nat):Int)))=J:=rfl;have bM:(decide ((0:Int)<=1)&&decide ((1:Int)<((2:Nat):Int)))=J:=rfl;have bZ:(1:Int).toNat=1:=rfl;refine tD (c:=q9) (Cz:=λh=>h mb=C ⟨.cells arr ty f,ow⟩) (xl:=[50]) eR O O O O (.inr O) hm ?_ t
  repeat first|refine lR rfl rfl (λh1=>by simp only[ah,seval,cJ];exact rfl) ?_|refine lU rfl rfl (by simp only[ah,seval,cJ,hm,y0];exact rfl) ?_
  refine yY rfl rfl (λh1 g=>by simp only[ah,seval,cJ,g,y1];exact rfl) ?_
  repeat first|refine lR rfl rfl (λh1=>by simp only[ah,seval,cJ,eQ];exact rfl) ?_|refine lU rfl rfl (by simp only[ah,seval];exact rfl) ?_
  refine n1 (h':=h7.put c2 (fY (.slice a1 bK H) (.slice a2 bR G) x a.b.cS (.slice a3 cQ D) (.slice F n4 E) L)) (by rw[bx lb];exact hm) (by simp only[ah,seval,iF,N];exactλ_ e=>e) ?_
  repeat first|refine lR rfl rfl (λh1=>by simp only[ah,seval,cJ,eQ];exact rfl) ?_|refine lU rfl rfl (by simp only[ah,seval];exact rfl) ?_
  refine n1 (h':=h7.put c2 (fY (.slice a1 bK H) (.slice a2 bR G) x y (.slice a3 cQ D) (.slice F n4 E) L)) (by rw[bx lb];exact hm) (by simp only[ah,seval,iF,vK,oS,fY];exactλ_ e=>e) ?_;rw[tE];have QE:=(Q7.put (c:=c2) (z:=fY (.slice a1 bK H) (.slice a2 bR G) x y (.slice a3 cQ D) (.slice F n4 E) L) Y).mG (x':=⟨a.b.b2,a.b.cf,x,y⟩) rfl rfl;have FE:=F7.put (c:=c2) (z:=fY (.slice a1 bK H) (.slice a2 bR G) x y (.slice a3 cQ D) (.slice F n4 E) L) cm;have G2:(h7.put c2 (fY (.slice a1 bK H) (.slice a2 bR G) x y (.slice a3 cQ D) (.slice F n4 E) L)) c2=C (fY (.slice a1 bK H) (.slice a2 bR G) x y (.slice a3 cQ D) (.slice F n4 E) L):=cI;have G4:(h7.put c2 (fY (.slice a1 bK H) (.slice a2 bR G) x y (.slice a3 cQ D) (.slice F n4 E) L)) c4=_:=(bx fb).trans I;generalize h7.put c2 (fY (.slice a1 bK H) (.slice a2 bR G) x y (.slice a3 cQ D) (.slice F n4 E) L)=hE at QE FE G2 G4;unfold fY at G2;simp only[ah,seval,G2,G4,eQ];intro R P;exact a8 _ hE R _ a1 a2 a3 F bK bR cQ n4 H G D E ⟨a.b.b2,a.b.cf,x,y⟩ a.g 0 _ atA atA G4 P QE FE (.inr ⟨.mG x y,X.trans hb,by simp[jP],rfl,rfl⟩)
 have l3:(w==[98,111,115,115])=q9:=by rw[beq_eq_false_iff_ne];exact hw
 simp only[ah,seval,gg,l3];by_cases ds:w=iY
 .have ew:(w==[108,97,121,101,114])=J:=by rw[ds];rfl
  have b8:iN w r=si r:=by unfold iN;rw[if_neg hw,if_pos ds]
  rw[b8]at X;simp only[ah,seval,ew];rcases qa with⟨rfl,ab⟩|⟨rfl,ns,ab,qi,qf⟩
  .simp only[ah,seval];simp only[ah,seval,N,eQ];simp only[ah,seval,I,eQ];intro R P;exact a8 _ h7 R _ a1 a2 a3 F bK bR cQ n4 H G D E a.b a.g (-1) _ atA atA I P Q7 F7 (.inl ⟨X.trans (by unfold si;rw[ab];split<;>rfl),rfl⟩)
  have e0:n9=ns.length:=(ig.get qi.1).1;have nG:=ph ab;by_cases n0:ns.length=4
  case neg=>
   have e9:((n9:Int)==4)=q9:=by rw[beq_eq_false_iff_ne];omega
   simp only[ah,seval,e9];simp only[ah,seval,N,eQ];simp only[ah,seval,I,eQ];intro R P;exact a8 _ h7 R _ a1 a2 a3 F bK bR cQ n4 H G D E a.b a.g (-1) _ atA atA I P Q7 F7 (.inl ⟨X.trans (by unfold si;rw[if_neg U]),rfl⟩)
  have e9:((n9:Int)==4)=J:=by rw[beq_iff_eq];omega
  have hb:si r=C (.nk ns):=by unfold si;rw[if_pos U,ab];rfl
  simp only[ah,seval,e9,N,eQ,Nd];refine Wq λhQ h9 hR fx=> ?_;have ca:=bU hR fx;have ef:=bw fx;simp only[ah,seval];refine Wu (Q7.le ca) bd.1 (iZ.le (fc.ay ca) qi) (λA e=>hg (qf A e)) (by rw[iX ef];rfl) λhx bt M' eW out eg bm dA=> ?_;obtain⟨bM,bE,b3,rfl⟩:=dA;have dS:bt c2=_:=(bm c2 Y).trans (ca _ _ N);have ea:bt c4=_:=(bm c4 Y).trans (ca _ _ I);simp only[ah,seval,dS,eQ];intro af bh;have QE:=eW.put (c:=c2) (z:=fY (.slice bM bE b3) (.slice a2 bR G) a.b.cW a.b.cS (.slice a3 cQ D) (.slice F n4 E) L) Y;have FE:=((F7.le ca).app (B':=c4::c2::B) (λd hd=>by simp[hd]) out eg bm).put (c:=c2) (z:=fY (.slice bM bE b3) (.slice a2 bR G) a.b.cW a.b.cS (.slice a3 cQ D) (.slice F n4 E) L) cm;rw[show bt.put c2 (fY (.slice bM bE b3) (.slice a2 bR G) a.b.cW a.b.cS (.slice a3 cQ D) (.slice F n4 E) L)=af from bh.symm]at QE FE;have G2:=bw bh;have G4:af c4=_:=(by rw[bh];exact bx fb:af c4=bt c4).trans ea;simp only[ah,seval,G2,G4,eQ];intro R P;exact a8 _ af R _ bM a2 a3 F bE bR cQ n4 b3 G D E (a.step (.nk ns)).b (a.step (.nk ns)).g 1 _ atA atA G4 P QE FE (.inr ⟨.nk ns,X.trans hb,by simp[jP],rfl,rfl⟩)
 have l4:(w==[108,97,121,101,114])=q9:=by rw[beq_eq_false_iff_ne];exact ds
 simp only[ah,seval,gg,l4];by_cases eb:w=lQ
 .have ew:(w==[115,101,115,115,105,111,110])=J:=by rw[eb];rfl
  have b8:iN w r=tH r:=by unfold iN;rw[if_neg hw,if_neg ds,if_pos eb]
  rw[b8]at X;simp only[ah,seval,ew];refine cd apZ (ap0 lL hI hJ) λs7 h8 z ⟨q1,hh,n7,n8,oa,l7,p1,p2,p3,p4⟩=> ?_;subst q1;subst p1;have Q8:=Q7.le hh;have F8:=F7.le hh;have N:=hh _ _ N;have I:=hh _ _ I;cases l7 with
  |false=>
   have hn:∀bc,dZ gl r=C bc->bc.length≠4:=λbc a b=>W3 (p2.2 ⟨bc,a,b⟩);simp only[ah,seval,dg];simp only[ah,seval,N,eQ];simp only[ah,seval,I,eQ];intro R P;exact a8 _ h8 R _ a1 a2 a3 F bK bR cQ n4 H G D E a.b a.g (-1) _ atA atA I P Q8 F8 (.inl ⟨X.trans (by
      unfold tH;split
      .rename_i h4;cases ha:dZ gl r with
       |none=>rfl
       |some bc=>exact(hn bc ha (by rw[ph ha];exact h4)).elim
      .rfl),rfl⟩)
  |true=>
  obtain⟨bc,ab,h4⟩:=p2.1 rfl;have qi:=p3 bc ab;have hb:tH r=C (.nm bc):=by unfold tH;rw[if_pos (by rw[<- ph ab];exact h4),ab];rfl
  simp only[ah,seval,dg,N,eQ,Nf];refine Wr λhQ h9 hR fx=> ?_;have ca:=bU hR fx;have ef:=bw fx;simp only[ah,seval];refine Wv (Q8.le ca) bd.2.1 (jD.le ca qi) (λA e=>lT (p4 A e)) (by rw[iX ef];rfl) λog bt M' eW out eg bm dA=> ?_;obtain⟨bM,bE,b3,rfl⟩:=dA;have dS:bt c2=_:=(bm c2 Y).trans (ca _ _ N);have ea:bt c4=_:=(bm c4 Y).trans (ca _ _ I);simp only[ah,seval,dS,eQ];intro af bh;have QE:=eW.put (c:=c2) (z:=fY (.slice a1 bK H) (.slice bM bE b3) a.b.cW a.b.cS (.slice a3 cQ D) (.slice F n4 E) L) Y;have FE:=((F8.le ca).app (B':=c4::c2::B) (λd hd=>by simp[hd]) out eg bm).put (c:=c2) (z:=fY (.slice a1 bK H) (.slice bM bE b3) a.b.cW a.b.cS (.slice a3 cQ D) (.slice F n4 E) L) cm;rw[show bt.put c2 (fY (.slice a1 bK H) (.slice bM bE b3) a.b.cW a.b.cS (.slice a3 cQ D) (.slice F n4 E) L)=af from bh.symm]at QE FE;have G2:=bw bh;have G4:af c4=_:=(by rw[bh];exact bx fb:af c4=bt c4).trans ea;simp only[ah,seval,G2,G4,eQ];intro R P;exact a8 _ af R _ a1 bM a3 F bK bE cQ n4 H b3 D E (a.step (.nm bc)).b (a.step (.nm bc)).g 2 _ atA atA G4 P QE FE (.inr ⟨.nm bc,X.trans hb,by simp[jP],rfl,rfl⟩)
 have mA:(w==[115,101,115,115,105,111,110])=q9:=by rw[beq_eq_false_iff_ne];exact eb
 simp only[ah,seval,gg,mA];by_cases e5:w=mN
 .have ew:(w==[103,114,111,117,110,100])=J:=by rw[e5];rfl
  have b8:iN w r=if r=[]then C .ground else o0:=by unfold iN;rw[if_neg hw,if_neg ds,if_neg eb,if_pos e5]
  rw[b8]at X;by_cases ck:r=[]
  .have e9:((n:Int)==0)=J:=by rw[beq_iff_eq,nr,ck];rfl
   simp only[ah,seval,ew,e9,N,I,eQ];intro R P;exact a8 _ h7 R _ a1 a2 a3 F bK bR cQ n4 H G D E a.b a.g 3 _ atA atA I P Q7 F7 (.inr ⟨.ground,X.trans (if_pos ck),by simp[jP],rfl,rfl⟩)
  .have oi:r.length≠0:=λe=>ck (List.length_eq_zero_iff.1 e);have e9:((n:Int)==0)=q9:=by rw[beq_eq_false_iff_ne];omega
   simp only[ah,seval,ew,e9];simp only[ah,seval,N,eQ];simp only[ah,seval,I,eQ];intro R P;exact a8 _ h7 R _ a1 a2 a3 F bK bR cQ n4 H G D E a.b a.g (-1) _ atA atA I P Q7 F7 (.inl ⟨X.trans (if_neg ck),rfl⟩)
 have mL:(w==[103,114,111,117,110,100])=q9:=by rw[beq_eq_false_iff_ne];exact e5
 simp only[ah,seval,gg,mL];by_cases gf:w=nT
 .have ew:(w==[115,116,97,110,100])=J:=by rw[gf];rfl
  have b8:iN w r=n2 (λn a b c=>.nY ⟨n,a,b,c⟩) r:=by unfold iN;rw[if_neg hw,if_neg ds,if_neg eb,if_neg e5,if_pos gf]
  rw[b8]at X;cases k6 with
  |false=>
   have hn:∀x W ns,r=x::W->W.length=3->dZ dP W≠C ns:=λx W ns a b c=>W3 (q4.2 ⟨x,W,ns,a,b,c⟩);simp only[ah,seval,ew];simp only[ah,seval,N,eQ];simp only[ah,seval,I,eQ];intro R P;exact a8 _ h7 R _ a1 a2 a3 F bK bR cQ n4 H G D E a.b a.g (-1) _ atA atA I P Q7 F7 (.inl ⟨X.trans (by
      cases r with
      |nil=>rfl
      |cons x W=>
       refine Nv ?_;by_cases h3:W.length=3
       .cases ha:dZ dP W with
        |none=>exact .inl rfl
        |some ns=>exact(hn x W ns rfl h3 ha).elim
       .exact .inr h3),rfl⟩)
  |true=>
  obtain⟨x,W,ns,ck,h3,ab⟩:=q4.1 rfl;obtain⟨rfl,qi⟩:=q5 x W ns ck h3 ab;obtain⟨p,q,u,rfl⟩:=Nw ((ph ab).trans h3);have hb:n2 (λn a b c=>.nY ⟨n,a,b,c⟩) r=C (.nY ⟨cr,p,q,u⟩):=by rw[ck,n2,ab]
  obtain⟨e0,rr⟩:=ig.get qi.1;obtain⟨mb,o9,rfl,arr,ty,f,ow,hm,hr⟩:=rr.resolve_left Y;have y0:=hr 0 p rfl;have y1:=hr 1 q rfl;have y2:=hr 2 u rfl;rw[asg]at y0;have ft:k5=3:=e0;subst ft;have b0:(decide ((0:Int)<=0)&&decide ((0:Int)<((3:Nat):Int)))=J:=rfl;have bM:(decide ((0:Int)<=1)&&decide ((1:Int)<((3:Nat):Int)))=J:=rfl;have bE:(decide ((0:Int)<=2)&&decide ((2:Int)<((3:Nat):Int)))=J:=rfl;have bZ:(1:Int).toNat=1:=rfl;have cU:(2:Int).toNat=2:=rfl;simp only[ah,seval,ew,fI];intro t;refine Gc O O eR 6 15 O (λi v h=>match i with
   | 0=>v=aV c2 4
   | 1=>v=aV c2 4
   | 2=>v=.slice a3 cQ D
   | 3=>v=au cr
   | 4=>v=.slice (C ⟨mb,o9,o0⟩) 3 dd
   | 5=>v=aV mb o9
   | 6=>v=.int .i64 p
   | 7=>v=.slice (C ⟨mb,o9,o0⟩) 3 dd
   | 8=>v=aV mb (o9+1)
   | 9=>v=.int .i64 q
   | 10=>v=.slice (C ⟨mb,o9,o0⟩) 3 dd
   | 11=>v=aV mb (o9+2)
   | 12=>v=.int .i64 u
   | 13=>v=.agg #[.string ⟨⟨cr⟩⟩,.int .i64 p,.int .i64 q,.int .i64 u]
   | 14=>∃c,v=dn c 0 1 1/\h c=C ⟨.cells ⟨wO ⟨cr,p,q,u⟩⟩ 51 (0,0),J⟩
   |_=>True) (λi v h h' le q=> ?_) ?_ ?_ t
  .match i,q with
   | 0,q=>exact q
   | 1,q=>exact q
   | 2,q=>exact q
   | 3,q=>exact q
   | 4,q=>exact q
   | 5,q=>exact q
   | 6,q=>exact q
   | 7,q=>exact q
   | 8,q=>exact q
   | 9,q=>exact q
   | 10,q=>exact q
   | 11,q=>exact q
   | 12,q=>exact q
   | 13,q=>exact q
   | 14,⟨c,q1,q2⟩=>exact⟨c,q1,le _ _ q2⟩
   |n+15,_=>trivial
  .intro i o hi j k bt bk un mS K;have G2:=bk _ _ N;have GM:=bk _ _ hm;have u2:k 2=aV c2 0:=(un 2 rfl).trans atA;have hU:k 11=au cr:=(un 11 rfl).trans atA;have ee:k 12=.slice (C ⟨mb,o9,o0⟩) 3 dd:=(un 12 rfl).trans atA
   match i,hi,j with
   | 0,_,j=>cases j;simp only[ah,seval,u2,eQ];exact⟨_,rfl,.cO _,rfl⟩
   | 1,_,j=>cases j;have p0:k 101=_:=K 0 101 rfl rfl;simp only[ah,seval,p0];exact⟨_,rfl,.cO _,rfl⟩
   | 2,_,j=>cases j;have p1:k 102=_:=K 1 102 rfl rfl;simp only[ah,seval,p1,G2];exact⟨_,rfl,.cO _,rfl⟩
   | 3,_,j=>cases j;simp only[ah,seval,hU];exact⟨_,rfl,.cO _,rfl⟩
   | 4,_,j=>cases j;simp only[ah,seval,ee];exact⟨_,rfl,.cO _,rfl⟩
   | 5,_,j=>cases j;have p4:k 105=_:=K 4 105 rfl rfl;simp only[ah,seval,p4];exact⟨_,rfl,.cO _,rfl⟩
   | 6,_,j=>cases j;have p5:k 106=_:=K 5 106 rfl rfl;simp only[ah,seval,p5,GM,y0];exact⟨_,rfl,.cO _,rfl⟩
   | 7,_,j=>cases j;simp only[ah,seval,ee];exact⟨_,rfl,.cO _,rfl⟩
   | 8,_,j=>cases j;have p7:k 108=_:=K 7 108 rfl rfl;simp only[ah,seval,p7,bZ];exact⟨_,rfl,.cO _,rfl⟩
   | 9,_,j=>cases j;have p8:k 109=_:=K 8 109 rfl rfl;simp only[ah,seval,p8,GM,y1];exact⟨_,rfl,.cO _,rfl⟩
   | 10,_,j=>cases j;simp only[ah,seval,ee];exact⟨_,rfl,.cO _,rfl⟩
   | 11,_,j=>cases j;have hZ:k 111=_:=K 10 111 rfl rfl;simp only[ah,seval,hZ,cU];exact⟨_,rfl,.cO _,rfl⟩
   | 12,_,j=>cases j;have ih:k 112=_:=K 11 112 rfl rfl;simp only[ah,seval,ih,GM,y2];exact⟨_,rfl,.cO _,rfl⟩
   | 13,_,j=>cases j;have p3:k 104=_:=K 3 104 rfl rfl;have p6:k 107=_:=K 6 107 rfl rfl;have p9:k 110=_:=K 9 110 rfl rfl;have jw:k 113=_:=K 12 113 rfl rfl;simp only[ah,seval,p3,p6,p9,jw,VL];exact⟨_,rfl,.cO _,rfl⟩
   | 14,_,j=>cases j;have j0:k 114=_:=K 13 114 rfl rfl;simp only[ah,seval,j0];refine Ws (w:=⟨cr,p,q,u⟩) λc h1 hc e1=> ?_;exact⟨rfl,_,rfl,rfl,bU hc e1,c,rfl,bw e1⟩
   |n+15,hi,_=>omega
  .intro k bt bk un K;have u2:k 2=aV c2 0:=(un 2 rfl).trans atA;have u4:k 4=aV c4 0:=(un 4 rfl).trans atA;have p2:k 103=.slice a3 cQ D:=K 2 103 aty rfl;obtain⟨hQ,j1,ef⟩:=K 14 115 aty rfl;simp only[av9,avA];simp only[ah,seval,p2,j1];refine Ww (Q7.le bk) bd.2.2.1 (w:=⟨cr,p,q,u⟩) (by rw[iX ef];rfl) λmT c6 M' eW out eg bm dA=> ?_;obtain⟨bM,bE,b3,rfl⟩:=dA;have dS:c6 c2=_:=(bm c2 Y).trans (bk _ _ N);have ea:c6 c4=_:=(bm c4 Y).trans (bk _ _ I);simp only[ah,seval,u2,dS,eQ];intro af bh;have QE:=eW.put (c:=c2) (z:=fY (.slice a1 bK H) (.slice a2 bR G) a.b.cW a.b.cS (.slice bM bE b3) (.slice F n4 E) L) Y;have FE:=((F7.le bk).app (B':=c4::c2::B) (λd hd=>by simp[hd]) out eg bm).put (c:=c2) (z:=fY (.slice a1 bK H) (.slice a2 bR G) a.b.cW a.b.cS (.slice bM bE b3) (.slice F n4 E) L) cm;rw[show c6.put c2 (fY (.slice a1 bK H) (.slice a2 bR G) a.b.cW a.b.cS (.slice bM bE b3) (.slice F n4 E) L)=af from bh.symm]at QE FE;have G2:=bw bh;have G4:af c4=_:=(by rw[bh];exact bx fb:af c4=c6 c4).trans ea;simp only[ah,seval,u4,G2,G4,eQ];intro R P;exact a8 _ af R _ a1 a2 bM F bK bR bE n4 H G b3 E _ _ 4 _ (by simp[ak,u4]) atA G4 P QE FE (.inr ⟨.nY ⟨cr,p,q,u⟩,X.trans hb,by simp[jP],rfl,rfl⟩)
 have mX:(w==[115,116,97,110,100])=q9:=by rw[beq_eq_false_iff_ne];exact gf
 simp only[ah,seval,gg,mX];by_cases hj:w=nU
 .have ew:(w==[97,114,99,104,101,114])=J:=by rw[hj];rfl
  have b8:iN w r=n2 (λn a b c=>.nZ ⟨n,a,b,c⟩) r:=by unfold iN;rw[if_neg hw,if_neg ds,if_neg eb,if_neg e5,if_neg gf,if_pos hj]
  rw[b8]at X;cases k6 with
  |false=>
   have hn:∀x W ns,r=x::W->W.length=3->dZ dP W≠C ns:=λx W ns a b c=>W3 (q4.2 ⟨x,W,ns,a,b,c⟩);simp only[ah,seval,ew];simp only[ah,seval,N,eQ];simp only[ah,seval,I,eQ];intro R P;exact a8 _ h7 R _ a1 a2 a3 F bK bR cQ n4 H G D E a.b a.g (-1) _ atA atA I P Q7 F7 (.inl ⟨X.trans (by
      cases r with
      |nil=>rfl
      |cons x W=>
       refine Nv ?_;by_cases h3:W.length=3
       .cases ha:dZ dP W with
        |none=>exact .inl rfl
        |some ns=>exact(hn x W ns rfl h3 ha).elim
       .exact .inr h3),rfl⟩)
  |true=>
  obtain⟨x,W,ns,ck,h3,ab⟩:=q4.1 rfl;obtain⟨rfl,qi⟩:=q5 x W ns ck h3 ab;obtain⟨p,q,u,rfl⟩:=Nw ((ph ab).trans h3);have hb:n2 (λn a b c=>.nZ ⟨n,a,b,c⟩) r=C (.nZ ⟨cr,p,q,u⟩):=by rw[ck,n2,ab]
  obtain⟨e0,rr⟩:=ig.get qi.1;obtain⟨mb,o9,rfl,arr,ty,f,ow,hm,hr⟩:=rr.resolve_left Y;have y0:=hr 0 p rfl;have y1:=hr 1 q rfl;have y2:=hr 2 u rfl;rw[asg]at y0;have ft:k5=3:=e0;subst ft;have b0:(decide ((0:Int)<=0)&&decide ((0:Int)<((3:Nat):Int)))=J:=rfl;have bM:(decide ((0:Int)<=1)&&decide ((1:Int)<((3:Nat):Int)))=J:=rfl;have bE:(decide ((0:Int)<=2)&&decide ((2:Int)<((3:Nat):Int)))=J:=rfl;have bZ:(1:Int).toNat=1:=rfl;have cU:(2:Int).toNat=2:=rfl;simp only[ah,seval,ew,fI];intro t;refine Gc O O eR 6 15 O (λi v h=>match i with
   | 0=>v=aV c2 4
   | 1=>v=aV c2 5
   | 2=>v=.slice F n4 E
   | 3=>v=au cr
   | 4=>v=.slice (C ⟨mb,o9,o0⟩) 3 dd
   | 5=>v=aV mb o9
   | 6=>v=.int .i64 p
   | 7=>v=.slice (C ⟨mb,o9,o0⟩) 3 dd
   | 8=>v=aV mb (o9+1)
   | 9=>v=.int .i64 q
   | 10=>v=.slice (C ⟨mb,o9,o0⟩) 3 dd
   | 11=>v=aV mb (o9+2)
   | 12=>v=.int .i64 u
   | 13=>v=.agg #[.string ⟨⟨cr⟩⟩,.int .i64 p,.int .i64 q,.int .i64 u]
   | 14=>∃c,v=dn c 0 1 1/\h c=C ⟨.cells ⟨wP ⟨cr,p,q,u⟩⟩ 53 (0,0),J⟩
   |_=>True) (λi v h h' le q=> ?_) ?_ ?_ t
  .match i,q with
   | 0,q=>exact q
   | 1,q=>exact q
   | 2,q=>exact q
   | 3,q=>exact q
   | 4,q=>exact q
   | 5,q=>exact q
   | 6,q=>exact q
   | 7,q=>exact q
   | 8,q=>exact q
   | 9,q=>exact q
   | 10,q=>exact q
   | 11,q=>exact q
   | 12,q=>exact q
   | 13,q=>exact q
   | 14,⟨c,q1,q2⟩=>exact⟨c,q1,le _ _ q2⟩
   |n+15,_=>trivial
  .intro i o hi j k bt bk un mS K;have G2:=bk _ _ N;have GM:=bk _ _ hm;have u2:k 2=aV c2 0:=(un 2 rfl).trans atA;have hU:k 11=au cr:=(un 11 rfl).trans atA;have ee:k 12=.slice (C ⟨mb,o9,o0⟩) 3 dd:=(un 12 rfl).trans atA
   match i,hi,j with
   | 0,_,j=>cases j;simp only[ah,seval,u2,eQ];exact⟨_,rfl,.cO _,rfl⟩
   | 1,_,j=>cases j;have p0:k 123=_:=K 0 123 rfl rfl;simp only[ah,seval,p0];exact⟨_,rfl,.cO _,rfl⟩
   | 2,_,j=>cases j;have p1:k 124=_:=K 1 124 rfl rfl;simp only[ah,seval,p1,G2];exact⟨_,rfl,.cO _,rfl⟩
   | 3,_,j=>cases j;simp only[ah,seval,hU];exact⟨_,rfl,.cO _,rfl⟩
   | 4,_,j=>cases j;simp only[ah,seval,ee];exact⟨_,rfl,.cO _,rfl⟩
   | 5,_,j=>cases j;have p4:k 127=_:=K 4 127 rfl rfl;simp only[ah,seval,p4];exact⟨_,rfl,.cO _,rfl⟩
   | 6,_,j=>cases j;have p5:k 128=_:=K 5 128 rfl rfl;simp only[ah,seval,p5,GM,y0];exact⟨_,rfl,.cO _,rfl⟩
   | 7,_,j=>cases j;simp only[ah,seval,ee];exact⟨_,rfl,.cO _,rfl⟩
   | 8,_,j=>cases j;have p7:k 130=_:=K 7 130 rfl rfl;simp only[ah,seval,p7,bZ];exact⟨_,rfl,.cO _,rfl⟩
   | 9,_,j=>cases j;have p8:k 131=_:=K 8 131 rfl rfl;simp only[ah,seval,p8,GM,y1];exact⟨_,rfl,.cO _,rfl⟩
   | 10,_,j=>cases j;simp only[ah,seval,ee];exact⟨_,rfl,.cO _,rfl⟩
   | 11,_,j=>cases j;have hZ:k 133=_:=K 10 133 rfl rfl;simp only[ah,seval,hZ,cU];exact⟨_,rfl,.cO _,rfl⟩
   | 12,_,j=>cases j;have ih:k 134=_:=K 11 134 rfl rfl;simp only[ah,seval,ih,GM,y2];exact⟨_,rfl,.cO _,rfl⟩
   | 13,_,j=>cases j;have p3:k 126=_:=K 3 126 rfl rfl;have p6:k 129=_:=K 6 129 rfl rfl;have p9:k 132=_:=K 9 132 rfl rfl;have jw:k 135=_:=K 12 135 rfl rfl;simp only[ah,seval,p3,p6,p9,jw,VM];exact⟨_,rfl,.cO _,rfl⟩
   | 14,_,j=>cases j;have j0:k 136=_:=K 13 136 rfl rfl;simp only[ah,seval,j0];refine Wt (w:=⟨cr,p,q,u⟩) λc h1 hc e1=> ?_;exact⟨rfl,_,rfl,rfl,bU hc e1,c,rfl,bw e1⟩
   |n+15,hi,_=>omega
  .intro k bt bk un K;have u2:k 2=aV c2 0:=(un 2 rfl).trans atA;have u4:k 4=aV c4 0:=(un 4 rfl).trans atA;have p2:k 125=.slice F n4 E:=K 2 125 aty rfl;obtain⟨hQ,j1,ef⟩:=K 14 137 aty rfl;simp only[av9,avA];simp only[ah,seval,p2,j1];refine Wx (Q7.le bk) bd.2.2.2 (w:=⟨cr,p,q,u⟩) (by rw[iX ef];rfl) λmT c6 M' eW out eg bm dA=> ?_;obtain⟨bM,bE,b3,rfl⟩:=dA;have dS:c6 c2=_:=(bm c2 Y).trans (bk _ _ N);have ea:c6 c4=_:=(bm c4 Y).trans (bk _ _ I);simp only[ah,seval,u2,dS,eQ];intro af bh;have QE:=eW.put (c:=c2) (z:=fY (.slice a1 bK H) (.slice a2 bR G) a.b.cW a.b.cS (.slice a3 cQ D) (.slice bM bE b3) L) Y;have FE:=((F7.le bk).app (B':=c4::c2::B) (λd hd=>by simp[hd]) out eg bm).put (c:=c2) (z:=fY (.slice a1 bK H) (.slice a2 bR G) a.b.cW a.b.cS (.slice a3 cQ D) (.slice bM bE b3) L) cm;rw[show c6.put c2 (fY (.slice a1 bK H) (.slice a2 bR G) a.b.cW a.b.cS (.slice a3 cQ D) (.slice bM bE b3) L)=af from bh.symm]at QE FE;have G2:=bw bh;have G4:af c4=_:=(by rw[bh];exact bx fb:af c4=c6 c4).trans ea;simp only[ah,seval,u4,G2,G4,eQ];intro R P;exact a8 _ af R _ a1 a2 a3 bM bK bR cQ bE H G D b3 _ _ 5 _ (by simp[ak,u4]) atA G4 P QE FE (.inr ⟨.nZ ⟨cr,p,q,u⟩,X.trans hb,by simp[jP],rfl,rfl⟩)
 have m0:(w==[97,114,99,104,101,114])=q9:=by rw[beq_eq_false_iff_ne];exact hj
 simp only[ah,seval,m0];simp only[ah,seval,N,eQ];simp only[ah,seval,I,eQ];intro R P;exact a8 _ h7 R _ a1 a2 a3 F bK bR cQ n4 H G D E a.b a.g (-1) _ atA atA I P Q7 F7 (.inl ⟨X.trans (by unfold iN;rw[if_neg hw,if_neg ds,if_neg eb,if_neg e5,if_neg gf,if_neg hj]),rfl⟩)
end
section
variable{main:Bool}{ai:Type}{S:Sys ai}{s:ai}{h:ae}
def ap8:bz pv 74=J:=O
def ap9{w:List UInt8}{r:List (List UInt8)}(h1:w≠pV)(b:w≠iY)(c:w≠lQ)(d:w≠mN)(h:(w≠nT/\w≠nU)\/r=[]\/dZ dP r.tail=o0\/r.tail.length≠3):iN w r=o0:=by
 have a:∀f,(r=[]\/dZ dP r.tail=o0\/r.tail.length≠3)->n2 f r=o0:=λf q=>by
  cases r with
  |nil=>rfl
  |cons x r=>exact Nv ((q.resolve_left Y))
 unfold iN;rw[if_neg h1,if_neg b,if_neg c,if_neg d];rcases h with⟨e,g⟩|q
 .rw[if_neg e,if_neg g]
 .rw[a _ q,a _ q];simp
def aqa{l:List UInt8}(hl:l.length<=90000)(h5:oH h)(h3:pf h):bo pv main S 74 #[au l] s h λs' h' z=>s'=s/\h.ar h'/\∃u aA,z=.tuple #[u,aA]/\((∃n t v,iO l=C n/\u=.iface t v/\aA=.nilIface/\wL h' (.iface t v) n/\VG h (.iface t v))\/(iO l=o0/\∃t v,aA=.iface t v)):=by
 refine bL (args:=[au l]) Tryz.func74 (by delta Tryz.f74;rfl) Tryz.ntmps74 Y O ?_;have K:iO l=o0->∀(e:Env) (h2:ae),h.ar h2->(∃t v,e 3=.iface t v)->dT pv Tryz.f74 (λs' h' z=>s'=s/\h.ar h'/\∃u aA,z=.tuple #[u,aA]/\((∃n t v,iO l=C n/\u=.iface t v/\aA=.nilIface/\wL h' (.iface t v) n/\VG h (.iface t v))\/(iO l=o0/\∃t v,aA=.iface t v))) 126 e [] s h2:=λhn e h2 le q=>
  gT aw9 Y Y ⟨rfl,le,e 2,e 3,rfl,.inr ⟨hn,q⟩⟩
 simp only[ah,seval];refine cd aol (aop (w:=32) hl) λs2 h2 v ⟨p,cM,⟨m,o,n,cp,e,hn⟩,q3⟩=> ?_;subst p;subst e;have eF:(cz 32 l).length<=90001:=by have:=uT (w:=32) (l:=l);have:l.count 32<=l.length:=aya;omega
 have fl:∀f∈cz 32 l,f.length<=90000:=λf hf=>atD (ze hf) hl;simp only[ah,seval];refine cd aon (apz q3 eF) λfe eh v ⟨p,D,q4⟩=> ?_;subst p;subst D;subst q4;have fb:=h3.le cM;by_cases bt:[]∈cz 32 l
 .obtain⟨j,k,q,f,w,g3⟩:=fb;have gm:∀B,eh.ar B->B 3=_:=λB le=>le _ _ g3;simp only[ah,seval,decide_eq_true bt,fI];intro t;refine kv eR O O ?_ t
  repeat refine gF (λh1 le=>by simp only[ah,seval,cJ,le,gm];exact⟨λ_ _ q=>q,rfl⟩) ?_
  rw[jN];intro h4 b9;simp only[ah,seval];exact K (WC bt) _ _ (cM.ay b9) ⟨j,k,atA⟩
 simp only[ah,seval,decide_eq_false bt,fI];obtain⟨w,r,hs⟩:∃w r,cz 32 l=w::r:=by
  cases hs:cz 32 l with
  |nil=>exact(Nt hs).elim
  |cons w r=>exact⟨w,r,rfl⟩
 have g:=WE bt hs;obtain⟨ca,cb⟩:=WU hs hl;rw[hs]at q3;have q4:=q3.tail hn;obtain⟨bG,o',n',bJ,e,en,hb⟩:=id q3;cases e;simp only[List.length_map,RF]at en;obtain⟨dG,e,arr,ty,f,ow,hm,hr⟩:=hb.resolve_left U;cases e;have g0:arr[o]? =C (au w):=by simpa using hr 0 [au w] Y 0 _ rfl
 have gm:∀h,eh.ar h->h m=_:=λh le=>le _ _ hm;have bd:decide ((0:Int)<(n:Int))=J:=atB
 intro t;refine VP eR O O O O ?_ t
 repeat refine gF (λh1 le=>by simp only[ah,seval,cJ,le,gm,g0,bd];exact⟨λ_ _ q=>q,rfl⟩) ?_
 refine gF (v:=dn m (if cp=1 then o else o+1) (n- 1) (cp- 1)) (λh1 le=> ?_) ?_
 .simp only[ah,seval,cJ];exact FQ (l:=1) au4 jC U hn ⟨rfl,.cO _,rfl⟩
 repeat refine gF (λh1 le=>by simp only[ah,seval,cJ];exact⟨λ_ _ q=>q,rfl⟩) ?_
 rw[jN];intro h4 b9;have X:=dE.le b9 q4;generalize(if cp=1 then o else o+1)=o2 at X;clear q4 gm g0 hm hr hb q3;have i:=cM.ay b9;have ab:=h3.le i;have eL:=h5.le i;simp only[ah,seval];by_cases E:w=pV
 .have bM:(w==[98,111,115,115])=J:=by rw[E];rfl
  have L:iN w r=tG r:=by unfold iN;rw[if_pos E]
  rw[L]at g;simp only[ah,seval,gg,bM];refine cd Nc (No (k0:=2) X ca cb ab) λgA G z ⟨p,d,a,bR,c2,aA,D,q8,M⟩=> ?_;subst p;subst D;rcases M with⟨e2,rfl,W,b,N⟩|⟨b,⟨j,k,rfl⟩,_⟩
  rotate_left
  .simp only[ah,seval,dg,wK];exact K (by rw[g];exact Nu (b.elim .inr .inl)) _ _ (i.ay d) ⟨j,k,atA⟩
  have eT:=ph b;obtain⟨x,y,rfl⟩:=WG (l:=W) U;have F:iO l=C (.mG x y):=by rw[g];unfold tG;rw[b]
  simp only[ah,seval,dg,sc,fI];obtain⟨de,r2⟩:=N.1.get;obtain⟨m3,o3,rfl,e1,e3,f3,w3,dt,ad⟩:=r2.resolve_left Y;have dx:bR=2:=de;subst dx;have a0:=ad 0 x rfl;have a1:=ad 1 y rfl;rw[asg]at a0;have P:∀h,G.ar h->h m3=_:=λh le=>le _ _ dt;have b0:(decide ((0:Int)<=0)&&decide ((0:Int)<((2:Nat):Int)))=J:=rfl;have bM:(decide ((0:Int)<=1)&&decide ((1:Int)<((2:Nat):Int)))=J:=rfl;have bZ:(1:Int).toNat=1:=rfl;intro t;refine kv eR O O ?_ t
  repeat refine gF (λh1 le=>by simp only[ah,seval,cJ,le,P,a0,a1,bZ,ao8,ao4];exact⟨λ_ _ q=>q,rfl⟩) ?_
  rw[jN];intro h7 Q;simp only[ah,seval];exact gT aw9 Y Y ⟨rfl,i.ay (d.ay Q),.iface 159 (.agg #[.int .i64 x,.int .i64 y]),.nilIface,atA,.inl ⟨_,159,.agg #[.int .i64 x,.int .i64 y],F,rfl,rfl,rfl,λA w n c e=>by cases e⟩⟩
 have bM:(w==[98,111,115,115])=q9:=beq_eq_false_iff_ne.2 E;by_cases H:w=iY
 .have bE:(w==[108,97,121,101,114])=J:=by rw[H];rfl
  have L:iN w r=si r:=by unfold iN;rw[if_neg E,if_pos H]
  rw[L]at g;simp only[ah,seval,gg,bM,bE];refine cd Nc (No (k0:=4) X ca cb ab) λgA G z ⟨p,d,a,bR,c2,aA,D,q8,M⟩=> ?_;subst p;subst D;rcases M with⟨e2,rfl,W,b,N⟩|⟨b,⟨j,k,rfl⟩,_⟩
  rotate_left
  .simp only[ah,seval,dg,Nd,VJ,VH];exact K (by
    rw[g];unfold si;rcases b with b|b
    .rw[if_neg b]
    .rw[b];simp) _ _ (i.ay d) ⟨j,k,atA⟩
  have F:iO l=C (.nk W):=by rw[g];unfold si;rw[if_pos e2,b];rfl
  simp only[ah,seval,dg,Nd,VJ,VH];exact gT aw9 Y Y ⟨rfl,i.ay d,.iface 161 (.agg #[.slice a bR c2]),.nilIface,atA,.inl ⟨_,161,.agg #[.slice a bR c2],F,rfl,rfl,⟨a,bR,c2,rfl,N⟩,λA w n c e=>by cases e;exact fh i (q8 _ rfl)⟩⟩
 have bE:(w==[108,97,121,101,114])=q9:=beq_eq_false_iff_ne.2 H;by_cases R:w=lQ
 .have b3:(w==[115,101,115,115,105,111,110])=J:=by rw[R];rfl
  have L:iN w r=tH r:=by unfold iN;rw[if_neg E,if_neg H,if_pos R]
  rw[L]at g;simp only[ah,seval,gg,bM,bE,b3];refine cd ao2 (apA (k0:=4) X ca cb ab eL) λgA G z ⟨p,d,a,bR,c2,aA,D,q8,M⟩=> ?_;subst p;subst D;rcases M with⟨e2,rfl,W,b,N⟩|⟨b,⟨j,k,rfl⟩,_⟩
  rotate_left
  .simp only[ah,seval,dg,Nf,VK,VI];exact K (by
    rw[g];unfold tH;rcases b with b|b
    .rw[if_neg b]
    .rw[b];simp) _ _ (i.ay d) ⟨j,k,atA⟩
  have F:iO l=C (.nm W):=by rw[g];unfold tH;rw[if_pos e2,b];rfl
  simp only[ah,seval,dg,Nf,VK,VI];exact gT aw9 Y Y ⟨rfl,i.ay d,.iface 163 (.agg #[.slice a bR c2]),.nilIface,atA,.inl ⟨_,163,.agg #[.slice a bR c2],F,rfl,rfl,⟨a,bR,c2,rfl,N⟩,λA w n c e=>by cases e;exact fh i (q8 _ rfl)⟩⟩
 have b3:(w==[115,101,115,115,105,111,110])=q9:=beq_eq_false_iff_ne.2 R;have ep:n- 1=r.length:=U
 have ft:∀B,h4.ar B->∃j k q f w,B 3=C ⟨.cells #[.iface j k] q f,w⟩:=λB le=>ab.le le;obtain⟨j,k,eq,ef,eo,g3⟩:=id ab;have P:∀B,h4.ar B->B 3=_:=λB le=>le _ _ g3;by_cases ag:w=mN
 .have b4:(w==[103,114,111,117,110,100])=J:=by rw[ag];rfl
  have L:iN w r=if r=[]then C .ground else o0:=by unfold iN;rw[if_neg E,if_neg H,if_neg R,if_pos ag]
  rw[L]at g;by_cases I:r=[]
  .have dA:n- 1=0:=by rw[ep,I];rfl
   rw[if_pos I]at g;simp only[ah,seval,gg,bM,bE,b3,b4,dA,Ng,ao5];exact gT aw9 Y Y ⟨rfl,i,.iface 165 (.agg #[]),.nilIface,atA,.inl ⟨_,165,.agg #[],g,rfl,rfl,rfl,λA w n c e=>by cases e⟩⟩
  .have gb:0<r.length:=List.length_pos_iff.2 I;rw[if_neg I]at g;simp only[ah,seval,gg,bM,bE,b3,b4,decide_eq_true (U:((n- 1:Nat):Int)>0),fI];intro t;refine kv eR O O ?_ t
   repeat refine gF (λh1 le=>by simp only[ah,seval,cJ,le,P];exact⟨λ_ _ q=>q,rfl⟩) ?_
   rw[jN];intro G d;simp only[ah,seval];exact K g _ _ (i.ay d) ⟨j,k,atA⟩
 have b4:(w==[103,114,111,117,110,100])=q9:=beq_eq_false_iff_ne.2 ag;have dS:=λq=>g.trans (ap9 (r:=r) E H R ag q);by_cases I:r=[]
 .have dA:n- 1=0:=by rw[ep,I];rfl
  simp only[ah,seval,gg,bM,bE,b3,b4,dA,fI];intro t;refine kv eR O O ?_ t
  repeat refine gF (λh1 le=>by simp only[ah,seval,cJ,le,P];exact⟨λ_ _ q=>q,rfl⟩) ?_
  rw[jN];intro G d;simp only[ah,seval];exact K (dS (.inr (.inl I))) _ _ (i.ay d) ⟨j,k,atA⟩
 obtain⟨x,r',rfl⟩:∃x r',r=x::r':=by
  cases r with
  |nil=>exact(I rfl).elim
  |cons x r'=>exact⟨x,r',rfl⟩
 obtain⟨e4,r9⟩:=fW.get X;obtain⟨gf,aa2,dQ,gi,e6,e7⟩:=r9.resolve_left Y;have n0:=e7 0 _ rfl;rw[asg]at n0;have q7:=fW.tail X U;simp only[RF]at ca e4;simp only[ah,seval,gg,bM,bE,b3,b4,show(((n- 1:Nat):Int)==0)=q9 by simp;omega];refine FQ (l:=1) au4 jC U U ?_;simp only[ah,seval];refine cd Nc (No (k0:=3) q7 U (λf hf=>cb f (by simp[hf])) ab) λgA G z ⟨p,d,a,bR,c2,aA,D,q8,M⟩=> ?_;subst p;subst D;rcases M with⟨e2,rfl,W,b,N⟩|⟨b,⟨j,k,rfl⟩,_⟩
 rotate_left
 .simp only[ah,seval,dg,wK];exact K (dS (.inr (.inr (b.elim .inr .inl)))) _ _ (i.ay d) ⟨j,k,atA⟩
 have eT:=ph b;obtain⟨x1,x2,x3,rfl⟩:=Nw (l:=W) U;obtain⟨de,r2⟩:=N.1.get;obtain⟨m3,o3,rfl,e1,e3,f3,w3,dt,ad⟩:=r2.resolve_left Y;have dx:bR=3:=de;subst dx;have a0:=ad 0 x1 rfl;have a1:=ad 1 x2 rfl;have a2:=ad 2 x3 rfl;rw[asg]at a0;have P:∀h,G.ar h->h m3=_:=λh le=>le _ _ dt;have er:∀h,G.ar h->h m=_:=λh le=>le _ _ (d _ _ e6);have e9:∀h,G.ar h->h 3=_:=λh le=>le _ _ (d _ _ g3);have bn:decide ((0:Int)<((n- 1:Nat):Int))=J:=atB
 have iK:(decide ((0:Int)<=0)&&decide ((0:Int)<((3:Nat):Int)))=J:=rfl;have dH:(decide ((0:Int)<=1)&&decide ((1:Int)<((3:Nat):Int)))=J:=rfl;have d2:(decide ((0:Int)<=2)&&decide ((2:Int)<((3:Nat):Int)))=J:=rfl;have bZ:(1:Int).toNat=1:=rfl;have cU:(2:Int).toNat=2:=rfl;have ey:∀f,n2 f (x::r')=C (f x x1 x2 x3):=λf=>by rw[n2,b]
 by_cases bl:w=nT
 .have b5:(w==[115,116,97,110,100])=J:=by rw[bl];rfl
  have F:iO l=C (.nY ⟨x,x1,x2,x3⟩):=by rw[g];unfold iN;rw[if_neg E,if_neg H,if_neg R,if_neg ag,if_pos bl,ey]
  simp only[ah,seval,dg,sc,gg,b5,fI];intro t;refine kv eR O O ?_ t
  repeat refine gF (λh1 le=>by simp only[ah,seval,cJ,le,er,P,n0,a0,a1,a2,bn,bZ,cU,VL,ao9,ao6];exact⟨λ_ _ q=>q,rfl⟩) ?_
  rw[jN];intro h7 Q;simp only[ah,seval];exact gT aw9 Y Y ⟨rfl,i.ay (d.ay Q),.iface 167 (fU.v ⟨x,x1,x2,x3⟩),.nilIface,by simp[ak,fU.v,bO],.inl ⟨_,167,_,F,rfl,rfl,rfl,λA w n c e=>by cases e⟩⟩
 have b5:(w==[115,116,97,110,100])=q9:=beq_eq_false_iff_ne.2 bl;by_cases ck:w=nU
 .have b6:(w==[97,114,99,104,101,114])=J:=by rw[ck];rfl
  have F:iO l=C (.nZ ⟨x,x1,x2,x3⟩):=by rw[g];unfold iN;rw[if_neg E,if_neg H,if_neg R,if_neg ag,if_neg bl,if_pos ck,ey]
  simp only[ah,seval,dg,sc,gg,b5,b6,fI];intro t;refine kv eR O O ?_ t
  repeat refine gF (λh1 le=>by simp only[ah,seval,cJ,le,er,P,n0,a0,a1,a2,bn,bZ,cU,VM,apa,ao7];exact⟨λ_ _ q=>q,rfl⟩) ?_
  rw[jN];intro h7 Q;simp only[ah,seval];exact gT aw9 Y Y ⟨rfl,i.ay (d.ay Q),.iface 169 (fV.v ⟨x,x1,x2,x3⟩),.nilIface,by simp[ak,fV.v,bO],.inl ⟨_,169,_,F,rfl,rfl,rfl,λA w n c e=>by cases e⟩⟩
 have b6:(w==[97,114,99,104,101,114])=q9:=beq_eq_false_iff_ne.2 ck;simp only[ah,seval,dg,sc,gg,b5,b6,fI];intro t;refine kv eR O O ?_ t
 repeat refine gF (λh1 le=>by simp only[ah,seval,cJ,le,e9];exact⟨λ_ _ q=>q,rfl⟩) ?_
 rw[jN];intro h7 Q;simp only[ah,seval];exact K (dS (.inl ⟨bl,ck⟩)) _ _ (i.ay (d.ay Q)) ⟨j,k,atA⟩
end
section
variable{P:Program}{main:Bool}{ai:Type}{S:Sys ai}{b:aS}{a:Act}{k:List Item}{cs:List Frame}{w w':World}{s:ai}{h:ae}
def WV{l:Nat}{L:Loop}{c:rj}{K:o5->ae->Prop}(a:h l=C ⟨.loop L,J⟩):aH P (ave l (C c)) h K=K (.bool q9) (h.put l ⟨.loop {L with state:=.done,pending:=C c},J⟩):=by simp only[ave,aJ,yj a,Ax a,aR];rfl
def aqb{l:Nat}{L:Loop}{K:Option rj->ae->Prop}(a:h l=C ⟨.loop L,J⟩)(hb:(L.state==LoopState.busy)=q9):aH P (av4 l) h K=K L.pending (h.put l ⟨.loop {L with state:=.exhausted},J⟩):=by simp only[av4,aJ,yj a,hb,Bool.false_eq_true,if_false,Ax a,aR]
def WW(j:Option rj)(K:eM->Prop):Prop:=(j=o0/\K .cx)\/(j=C .ret/\K .ret)
def aqc{f:Operand}{bc:Array Tmp}{g i:rj}{d:FuncId}{x y:Array o5}{K:eM->Act->ai->ae->Prop}(ck:bz P d=J)(o:b.ro=o0)(z:b.kind≠.early)(p:a.eval f=.func (.func d) x y)
  (u:aH P (aw5 b.fn a.tmps bc g i o0) h λc h1=>bo P main S d (x++#[.func (.yield c.1) #[] #[]]++y) s h1 λm h' v=>aH P (av4 c.1) h' λA B=>WW A λD=>K D ⟨a.tmps,c.2++a.defers⟩ m B):
  jo P main S b (.rangeFunc f bc g i) K a s h:=by
 intro Q k cs hc;refine .step ⟨rfl,λw r=> ?_⟩;obtain⟨c,w',h1,es,n,E,F,H,I⟩:=BG P _ h _ w #[] r u;rw[Array.empty_append]at n;obtain⟨l,mark⟩:=c;refine⟨_,w',_,h1,Ru ck o z p n,F,H,λe L=>I e (mem_seen L),?_⟩;refine E Q _ cs λm h' v q=> ?_;have t:(b.at ⟨a.tmps,mark++a.defers⟩ (.inRangeFunc l::k)).finish v=b.at ⟨a.tmps,mark++a.defers⟩ (.endRangeFunc l::k):=rfl;rw[t];exact tU (g':=λj=>G (b.at ⟨a.tmps,mark++a.defers⟩ ((j.map Item.code).toList++k)) cs) (fn:=b.fn) rfl (λ_ _ _ _ _ _=>trivial) q λw v w' es h' e q=>by
  rcases q with⟨rfl,q⟩|⟨rfl,q⟩
  .exact⟨GI e,hc .cx _ _ _ q⟩
  .exact⟨GI e,hc .ret _ _ _ q k⟩
def aqd{n:Nat}{f:Operand}{bc:Array Tmp}{k m:rj}{g:FuncId}{x y:Array o5}{K:eM->Env->List Deferred->ai->ae->Prop}{e:Env}{d:List Deferred}(ck:bz P g=J)(t:b.ro=o0)(z:b.kind≠.early)(w:aA e f=.func (.func g) x y)
  (u:aH P (aw5 b.fn (Array.ofFn (n:=n) λi=>e i) bc k m o0) h λc h1=>bo P main S g (x++#[.func (.yield c.1) #[] #[]]++y) s h1 λo h' v=>aH P (av4 c.1) h' λA p=>WW A λB=>K B e (c.2++d) o p):
  cB P main S n b (.rangeFunc f bc k m) K e d s h:=by
 intro a r hd;subst hd;refine aqc ck t z (by rw[zG r];exact w) ?_;rw[xz r];have l:=xz r;refine lq P _ (λc h1 q=>q.mono λo h' v q=>lq P _ (λj p q=>q.imp (λq=>⟨q.1,e,?_,q.2⟩) λq=>⟨q.1,e,?_,q.2⟩) q) u
 .rw[<- l];exact r
 .rw[<- l];exact r
end
section
variable{main:Bool}{ai:Type}{S:Sys ai}{s:ai}{h:ae}
def aqe{l c1 p:Nat}{L:Loop}{txt:List UInt8}{Zz:Nat->ae->Prop}{W:ae->Prop}(Q:L.params=#[p])(zl:∀k h,Zz k h->h l=C ⟨.loop L,J⟩)(zc:∀k h x y,Zz k h->h c1=C x->Zz k (h.put c1 y))
  (hy:∀k pc s h x,(fG txt)[k]? =C pc->Zz k h->h c1=C x->ki pv main S l L.fn (L.tmps.setIfInBounds p (au pc)) L.assign L.body s h λo h' v=>o=s/\((v=.bool J/\Zz (k+1) h'/\h' c1=C x)\/(v=.bool q9/\W h')))
  (D:Zz 0 h) (g:h c1=C ⟨.cells #[au txt] 9 (0,0),J⟩) (hl:txt.length<=90000):
  bo pv main S 111 #[.func (.yield l) #[] #[],aV c1 0] s h λo h' v=>o=s/\(Zz (fG txt).length h'\/W h'):=by
 refine bL (args:=[.func (.yield l) #[] #[],aV c1 0]) Tryz.func111 (by delta Tryz.f111;rfl) Tryz.ntmps111 Y O ?_;simp only[ah,seval];refine du (I:=λm e d w B=>∃k r,m=r.length/\r.length<=txt.length/\e 0=.func (.yield l) #[] #[]/\e 1=aV c1 0/\d=[]/\w=s/\Zz k B/\B c1=C ⟨.cells #[au r] 9 (0,0),J⟩/\(fG txt).drop k=fG r/\k<=(fG txt).length) (λm e d w B z=> ?_) (m:=txt.length) ⟨0,txt,rfl,Nat.le_refl _,atA,atA,rfl,rfl,D,g,rfl,U⟩;obtain⟨k,r,rfl,hr,e0,j,rfl,rfl,D,g,hd,hk⟩:=z;cases r with
 |nil=>
  simp only[ah,seval,j,g,eH];have a8:k=(fG txt).length:=by have:=congrArg List.length hd;simp[fG]at this;omega
  exact me aAU ⟨rfl,.inl (a8▸D)⟩
 |cons y r0=>
  generalize R:y::r0=r at*
  have ba:0<r.length:=by rw[<- R];simp
  simp only[ah,seval,j,g,eH,decide_eq_true (U:((r.length:Nat):Int)>0)];refine ev anY (an5 r 10 _ _) ?_;have af:∀(pc b:List UInt8) (u:ae),u=B.put c1 ⟨.cells #[au b] 9 (0,0),J⟩->(fG txt).drop k=pc::fG b->(u l=C ⟨.loop L,J⟩/\ki pv main S l L.fn (L.tmps.setIfInBounds p (au pc)) L.assign L.body w u λo h' v=>o=w/\((v=.bool J/\Zz (k+1) h'/\h' c1=C ⟨.cells #[au b] 9 (0,0),J⟩)\/(v=.bool q9/\W h')))/\(fG txt).drop (k+1)=fG b/\k+1<=(fG txt).length:=by
   intro pc b u ex X;have hg:(fG txt)[k]? =C pc:=by have:=congrArg (·[0]?) X;simpa using this
   have A:=(List.getElem?_eq_some_iff.1 hg).1;have ad:Zz k u:=by subst ex;exact zc k B _ _ D g
   refine⟨⟨zl _ _ ad,hy k pc w u _ hg ad (by subst ex;exact cI)⟩,by rw[<- awb,X];rfl,A⟩
  cases E:nV 10 r with
  |none=>
   have G:=Fs.1 E;have z:mj 10 r= -1:=by rw[mj,E]
   rw[Wh (by rw[<- R];simp) G]at hd;simp only[ah,seval,z,j,g];intro h2 e2;obtain⟨⟨H,M⟩,N,A⟩:=af r [] h2 e2 hd;simp only[ah,seval,e0];rw[DR (K:=⟨_⟩) H Q];refine ki.mono (λo h' v q=> ?_) M;obtain⟨rfl,⟨rfl,n,P⟩|⟨rfl,n⟩⟩:=q
   .simp only[ah,seval];exact⟨0,ba,k+1,[],rfl,Y,by simp[e0],by simp[j],n,P,N,A⟩
   .simp only[ah,seval];exact me aAU ⟨rfl,.inr n⟩
  |some i=>
   obtain⟨a,b,F,rfl,G⟩:=Ft E;have z:mj 10 r=(a.length:Int):=by rw[mj,E]
   have bt:r.length=a.length+b.length+1:=by rw[F];simp;omega
   rw[F,Wg G]at hd;have v1:IntKind.i64.wrap ((a.length:Int)+1)=((a.length+1:Nat):Int):=by rw[cq U U];omega
   have S1:∀{h:ae} [K:KK o5],al pv (K0 9 (.string ⟨⟨r⟩⟩) o0 (C (.int .i64 (a.length+1:Nat))) o0) h=K.f (au (a++[10])) h:=λ{h K}=>by
    rw[uQ U,F];have:(a++10::b).take (a.length+1)=a++[10]:=by rw[List.take_length_add_append];rfl
    rw[this]
   have S2:∀{h:ae} [K:KK o5],al pv (K0 9 (.string ⟨⟨r⟩⟩) (C (.int .i64 (a.length+1:Nat))) o0 o0) h=K.f (au b) h:=λ{h K}=>by
    rw[tx U,F];have:(a++10::b).drop (a.length+1)=b:=by rw[<- awb,List.drop_left' rfl];rfl
    rw[this]
   simp only[ah,seval,z,decide_eq_true (U:((a.length:Nat):Int)>=0),fI];intro t;refine tD (c:=q9) (Cz:=λ_=>True) (xl:=[]) eR O O O O (.inr O) trivial ?_ t
   repeat first|refine lR rfl rfl (λh1=>by simp only[ah,seval,cJ,j,v1,S1,S2];exact rfl) ?_|refine lU rfl rfl (by simp only[ah,seval,cJ,j,g];exact rfl) ?_
   refine n1 trivial (by simp only[ah,seval,iF,j,g];exactλ_ e=>e) ?_;rw[tE];obtain⟨⟨H,M⟩,N,A⟩:=af (a++[10]) b _ rfl hd;simp only[ah,seval,e0];rw[DR (K:=⟨_⟩) H Q];refine ki.mono (λo h' v q=> ?_) M;obtain⟨rfl,⟨rfl,n,P⟩|⟨rfl,n⟩⟩:=q
   .simp only[ah,seval];exact⟨b.length,U,k+1,b,rfl,U,by simp[e0],by simp[j],n,P,N,A⟩
   .simp only[ah,seval];exact me aAU ⟨rfl,.inr n⟩
end
section
variable{main:Bool}{ai:Type}{S:Sys ai}{s:ai}{h:ae}
def oL{h h':ae}{a b:Nat}{p d:Array o5}{q c:Nat}{f g:Nat×Nat}{w w':Bool}{z:dL}(e:h'=h.put b z)(i:h a=C ⟨.cells p q f,w⟩)(hb:h b=C ⟨.cells d c g,w'⟩)(j:q≠c):h' a=C ⟨.cells p q f,w⟩:=by rw[e];exact fX i hb j
def qZ[K:KK o5]:al pv (atW 25 #[]) h=K.f (.agg #[.slice o0 0 0,.slice o0 0 0,.int .i64 0,.int .i64 0]) h:=O
def rb[K:KK o5]:al pv (atW 29 #[]) h=K.f (.agg #[.slice o0 0 0,.slice o0 0 0]) h:=O
def aqf:bz pv 10=J:=O
def WX{a:Option vm}[K:KK o5]:al pv (Instr.makeInterface 106 (.pointer a)) h=K.f (.iface 106 (.pointer a)) h:=O
def dE.form{v:o5}{d:Nat}{rows:List (List o5)}(q:dE h v d rows):∃a n c,v=.slice a n c:=by obtain⟨b,o,n,c,e,_⟩:=q;exact⟨_,_,_,e⟩
end
end
end Go.Nk
