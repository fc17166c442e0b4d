/- Part Pbc of the proof of ButtTexts: lemmas. -/
import Derived.Test.YthgephlghkjiaaaGreatDoorPbb
set_option maxRecDepth 100000
set_option maxHeartbeats 4000000
set_option linter.all false
namespace Go.Nk
noncomputable section
open Go Go.Conc Go.Proofs
open Bool renaming true->J,false->q9
open Go renaming Value->o5
open Go.Proofs.Tryz renaming prog->pv,f3->avj,results3->ayf,f58->ay6
open Nat renaming lt_or_ge->vy,add_sub_cancel_left->ax3
open Option renaming some->C,none->o0
def Xd(x:bY)(y:Ground):List UInt8:=if gY x y=0 then tz x y else[]
def Xe{x:bY}{y:Ground}{z:o5}(q:(x.dF/\y.dF)/\z=.tuple #[au (tz x y),.int .i64 0]\/gY x y≠0/\z=.tuple #[au [],.int .i64 (gY x y)]):z=.tuple #[au (Xd x y),.int .i64 (gY x y)]:=by
 unfold Xd;rcases q with⟨q,e⟩|⟨q,e⟩
 .have:=U3.2 q;rw[if_pos this,this,e]
 .rw[if_neg q,e]
section
variable{main:Bool}{ai:Type}{S:Sys ai}{s:ai}{h:ae}
def aq2:bz pv 8=J:=O
def aq3{v w:o5}{x:bY}{y:Ground}{txt:List UInt8}{Jz:ai->Prop}{Cz:Prop}(hz:∀c,avj.body=C c->cB pv main S 84 ⟨3,.normal,o0⟩ c (λe=>match e with|.ext _=>λ_ _ _ _=>False|_=>dT pv avj (λA h' z=>Jz A/\h.ar h'/\z=.bool J) 84) (dC [v,w,au txt]) [] s h->Cz)(M:k7 h v x)(hw:kL h w y)(ht:tv h)(h4:nR h)(h5:oH h)(e7:pf h)(e8:ve h)
  (wn:∀h',h.ar h'->bo pv main S 7 #[] s h' λA e9 z=>Jz A/\h'.ar e9/\z=.bool J) (cG:bz pv 7=J):Cz:=by
 refine hz _ (by delta avj;rfl) ?_;obtain⟨v1,v2,aA,n,o⟩:=id M;obtain⟨w1,w2,ew,B,D⟩:=id hw;obtain⟨_,da,_⟩:=id n;obtain⟨_,dQ,_⟩:=id o;obtain⟨bM,k5,k1,rfl⟩:=da.form;obtain⟨bE,m2,k2,rfl⟩:=dQ.form;obtain⟨b3,m3,k3,rfl⟩:=B.form;obtain⟨b4,m4,k4,rfl⟩:=D.form;clear n o B D da dQ;rw[aA,ew];rw[aA]at M;rw[ew]at hw;clear aA ew;simp only[ah,seval,bO];intro c2 h2 fa e2 c3 h3 ea e3;have b5:=(bU fa e2).ay (bU ea e3);have j:=bU ea e3 _ _ (bw e2);have m:=bw e3;clear e2 e3;simp only[ah,seval,j];refine cd alV (alX (M.le b5)) λs4 fc z ⟨b,a7,a⟩=> ?_;subst b;have P:=b5.ay a7;have j:=a7 _ _ j;have m:=a7 _ _ m;have fg:∀(h9:ae) (N:ai->ae->o5->Prop),h.ar h9->(∀A h' z,Jz A->h.ar h'->z=.bool J->N A h' z)->bo pv main S 7 #[] s4 h9 N:=λh9 N le k=>(wn h9 le).mono λA h' z ⟨b,q2,a⟩=>k A h' z b (le.ay q2) a;rcases a with⟨rfl,qb⟩|⟨rfl,qb⟩
 .simp only[ah,seval];refine cd cG (wn fc P) λgA b8 z ⟨b,G,a⟩=> ?_;subst a;simp only[ah,seval];exact bu ayf Y ⟨b,P.ay G,atA⟩
 simp only[ah,seval,m];refine cd alW (alY (hw.le P)) λgA b8 z ⟨b,G,a⟩=> ?_;subst b;have g:=P.ay G;have j:=G _ _ j;have m:=G _ _ m;rcases a with⟨rfl,qw⟩|⟨rfl,qw⟩
 .simp only[ah,seval];refine cd cG (wn b8 g) λs6 h6 z ⟨b,p,a⟩=> ?_;subst a;simp only[ah,seval];exact bu ayf Y ⟨b,g.ay p,atA⟩
 by_cases lj:2000<txt.length
 .simp only[ah,seval,eH,decide_eq_true (U:((txt.length:Nat):Int)>2000)];refine cd cG (wn b8 g) λs6 h6 z ⟨b,p,a⟩=> ?_;subst a;simp only[ah,seval];exact bu ayf Y ⟨b,g.ay p,atA⟩
 have xf:x.fits:=⟨λl E=>by
  rcases vy 20 l.length with q|q
  .exact(qb (.inr (.inr (.inl ⟨l,E,q⟩)))).elim
  .omega,λl E=>by
  rcases vy 20 l.length with q|q
  .exact(qb (.inr (.inr (.inr ⟨l,E,q⟩)))).elim
  .omega⟩
 have yf:y.fits:=⟨λl E=>by
  rcases vy 100 l.name.length with q|q
  .exact(qw (.inr (.inr (.inl ⟨l,E,q⟩)))).elim
  .omega,λl E=>by
  rcases vy 100 l.name.length with q|q
  .exact(qw (.inr (.inr (.inr ⟨l,E,q⟩)))).elim
  .omega⟩
 clear P a7 b5 G fg;simp only[ah,seval,eH,decide_eq_false (U:¬((txt.length:Nat):Int)>2000),j,m];refine cd aq2 (anT (M.le g) (hw.le g) xf yf (ht.le g) (h4.le g)) λs6 h6 z ⟨b,p,a⟩=> ?_;subst b;obtain rfl:=Xe a;have a8:=g.ay p;have j:=p _ _ j;have m:=p _ _ m;clear g p a;simp only[ah,seval,dg,j,m];refine cd aq0 (aq1 (M.le a8) (hw.le a8)) λs7 h7 z ⟨b,ec,a⟩=> ?_;subst b;obtain rfl:=Xe a;have H:=a8.ay ec;clear a8 ec a j m;simp only[ah,seval,dg,Aw,(Y:(gY x y != gY x y)=q9)];refine cd aqf (aqJ U (h5.le H) (e7.le H) (e8.le H) (ht.le H)) λjC h9 z ⟨b,ed,dR,gv,hF,a,lF,nF,ca,cb⟩=> ?_;subst b;subst a;obtain⟨u1,u2,cc,n,o⟩:=id ca;obtain⟨u3,u4,ck,B,D⟩:=id cb;obtain⟨_,da,_⟩:=id n;obtain⟨_,dQ,_⟩:=id o;obtain⟨a1,bK,j1,rfl⟩:=da.form;obtain⟨a2,bR,j2,rfl⟩:=dQ.form;obtain⟨a3,cQ,j3,rfl⟩:=B.form;obtain⟨a4,n4,j4,rfl⟩:=D.form;clear n o B D da dQ nF;subst cc;subst ck;have bd:=H.ay ed;clear ed H;obtain⟨ee,ef,eg⟩:=apX (t:=txt);have px:=λ(s:ai) (h:ae)=>aqP (main:=main) (S:=S) (s:=s) (h:=h) (txt:=txt) U;generalize ia txt=hH at*
 obtain⟨lM,gx,an,fx⟩:=hH;dsimp only at ee ef eg ca cb px ⊢;simp only[ah,seval,dg,bO];intro I lr bh cm K lu bk cp;have Q:=bU bh cm;have bl:=bU bk cp;have i7:=bl _ _ (bw cm);have i8:=bw cp;have eh:=lF.ay (Q.ay bl);have n7:h I=o0:=fh bd bh;have n8:h K=o0:=fh (bd.ay Q) bk;have F7:hF I=o0:=fh lF bh;have F8:hF K=o0:=fh (lF.ay Q) bk;have ek:=bd.ay (Q.ay bl);clear cm cp Q bl lF;simp only[ah,seval,i7];intro ly R;have vf:=bw R;have k8:=oL R i8 i7 aty;have en:=dM eh F7 R;have eo:=dM ek n7 R;clear R i7 i8 eh ek;simp only[ah,seval,k8];intro lE W;have d:=bw W;have f:=oL W vf k8 aty;have ep:=dM en F8 W;have er:=dM eo n8 W;clear W vf k8 en eo bd bh bk;refine cd aqM (px _ _) λh0 lL z ⟨b,X,dR,gv,hG,a,lG,nG,eu,ey⟩=> ?_;subst b;subst a;obtain⟨u1,u2,cc,n,o⟩:=id eu;obtain⟨u3,u4,ck,B,D⟩:=id ey;obtain⟨_,da,_⟩:=id n;obtain⟨_,dQ,_⟩:=id o;obtain⟨h1,h8,ih,rfl⟩:=da.form;obtain⟨il,jl,jw,rfl⟩:=dQ.form;obtain⟨j0,kg,kh,rfl⟩:=B.form;obtain⟨kk,kl,km,rfl⟩:=D.form;clear n o B D da dQ nG px;subst cc;subst ck;have f:=X _ _ f;have d:=X _ _ d;have bn:=ep.ay X;have bp:=er.ay X;clear ep er X;simp only[ah,seval,dg,bO];intro dk lS ab c6 c10 hI ad dd;have i:=bU ab c6;have F:=bU ad dd;have i9:=F _ _ (bw c6);have L:=bw dd;have hc:I≠dk:=λe=>by rw[e,ab]at f;cases f
 have hf:K≠c10:=λe=>by have t:=i _ _ d;rw[e,ad]at t;cases t
 have f:=F _ _ (i _ _ f);have d:=F _ _ (i _ _ d);have ez:=bn.ay (i.ay F);have eA:=lG.ay (i.ay F);have F9:hF dk=o0:=fh bn ab;have hh:hF c10=o0:=fh (bn.ay i) ad;have G9:hG dk=o0:=fh lG ab;have hj:hG c10=o0:=fh (lG.ay i) ad;have n9:h dk=o0:=fh bp ab;have ho:h c10=o0:=fh (bp.ay i) ad;have eE:=bp.ay (i.ay F);clear c6 dd i F bn lG bp;simp only[ah,seval,i9];intro dA r;have L:=oL r L i9 aty;have f:dA I=_:=(by rw[r];exact bx hc:dA I=hI I).trans f;have d:=oL r d i9 aty;have eF:=dM ez F9 r;have eG:=dM eA G9 r;have eL:=dM eE n9 r;have k9:=bw r;clear r i9 ez eA eE;simp only[ah,seval,L];intro e6 u;have k9:=oL u k9 L aty;have f:=oL u f L aty;have d:e6 K=_:=(by rw[u];exact bx hf:e6 K=dA K).trans d;have eT:=dM eF hh u;have e0:=dM eG hj u;have hp:=dM eL ho u;have ds:=bw u;clear u L eF eG eL;simp only[ah,seval,f,k9];refine cd alP (alQ (ca.le eT) (eu.le e0) ee eg) λkn lT z ⟨b,af,a⟩=> ?_;subst b;subst a;have sb:(lM.cW==lM.cW&&(lM.cS==lM.cS&&(lM.b2==lM.b2&&lM.cf==lM.cf)))=J:=Y
 rw[sb];have d:=af _ _ d;have ds:=af _ _ ds;simp only[ah,seval,d,ds];refine cd alR (alU (cb.le (eT.ay af)) (ey.le (e0.ay af)) ef) λkr l2 z ⟨b,hr,a⟩=> ?_;subst b;rcases a with⟨rfl,_⟩|⟨_,hs⟩
 case inr=>exact(hs ⟨rfl,rfl⟩).elim
 have e1:=hp.ay (af.ay hr);simp only[ah,seval];refine cd cG (wn _ e1) λkt l3 z ⟨b,hy,a⟩=> ?_;subst a;simp only[ah,seval];exact bu ayf Y ⟨b,e1.ay hy,atA⟩
end
section
variable{ai:Type}{s:ai}{h:ae}
def aq4{gQ:ai->ae->o5->Prop}{e:Env}{c6:Nat}{a b v:o5}{o:Bool}(e6:e 6=aY c6)(e7:e 7=v)(c:h c6=C ⟨.cells #[a,b] 131 (0,0),o⟩)(p:gQ s h (.tuple #[.agg #[a,b],v])):dT pv ay6 gQ 27 e [] s h:=by
 have f:h.cell? ⟨c6,0,o0⟩=C a:=by simp[ae.cell?,c]
 have c1:h.cell? ⟨c6,1,o0⟩=C b:=by simp[ae.cell?,c]
 have d:∀Q:o5->ae->Prop,aH pv (loadVar 131 ⟨c6,0,o0⟩) h Q=Q (.agg #[a,b]) h:=λQ=>by rw[rF,AH];simp only[pB,pG,zQ,Nat.add_zero,Nat.zero_add,f,c1,Cg]
 simp only[dT,jU,results,show ay6.results=#[.cell 6 131,.tmp 7]from rfl];simp[aJ,aR,e6,e7,aY,asAddr,map_eq_pure_bind,d,-map_pure,-bind_pure_comp];exact p
end
section
variable{os0:eI}{Post:o5->World->Prop}{s:av}{h:ae}{ba bd:Nat}{fC:FuncId}{fF:Array o5}{nf:bX->bX->Int}{gf:bX->bX->Bool}{B:ae->Prop}{bl:List Nat}{bS:Int}
def aq5(h:ae)(bl:List Nat)(cs:cV)(ca cb:bX)(a:av)(h':ae)(v:o5):Prop:=iD a/\EL h h'/\(∀b x,h b=C x->b∉bl->h' b=C x)/\∃p k,v=.tuple #[.agg #[.slice (C ⟨p,0,o0⟩) 2 k,.int .i64 cs.1],.bool J]/\h p=o0/\iA h' p k [ca,cb] J
def aq6(D:iD s)(gy:B h)(gz:∀i,uH q9 (dY 203 210 os0 Post i) B fC fF nf gf)
  (sub:∀h h',B h->(∀b∈bl,∀x,h b=C x->∃o,h' b=C ⟨x.obj,o⟩)->B h') (eo:1<=bS) (ep:ba≠bd) {cs:cV} {ca cb:bX} (er:cs.2=[ca,cb]) {kx:Nat} (ho:kx<8) (ag:cs∈jB bS nf gf (hY kx) 8)
  (et:∀b∈bl,∃x,h b=C x) (eu:∀k,k<8->∀c∈jB bS nf gf (hY k) 8,key c<=key cs->c=cs):
  bo pv J (SM 203 210 os0 Post) 58 #[yz ba bd,.int .i64 bS,.func (.func fC) #[] fF] s h (aq5 h bl cs ca cb):=by
 refine bL (n:=27) (args:=[yz ba bd,.int .i64 bS,.func (.func fC) #[] fF]) Tryz.func58 akl rfl Y akm ?_;simp only[aO,seval,akk,yz,vJ];intro c3 az c4 I c5 E;rw[vX (K:=⟨_⟩) Ll];intro c6 r;have ew:(Value.agg #[.slice (C ⟨ba,0,o0⟩) 2 2,.slice (C ⟨bd,0,o0⟩) 2 2,.int .i64 20,.int .i64 1]).cells=#[.slice (C ⟨ba,0,o0⟩) 2 2,.slice (C ⟨bd,0,o0⟩) 2 2,.int .i64 20,.int .i64 1]:=rfl;have ey:(Value.int .i64 bS).cells=#[.int .i64 bS]:=rfl;have ez:(Value.func (.func fC) #[] fF).cells=#[.func (.func fC) #[] fF]:=rfl;have cl:(Value.agg #[.slice o0 0 0,.int .i64 0]).cells=#[.slice o0 0 0,.int .i64 0]:=rfl;rw[ew]at I E r ⊢;rw[ey]at E r ⊢;rw[ez]at r ⊢;rw[cl];generalize f:h.put c3 _=h1 at I E r ⊢;have F:h.ar h1:=by rw[<- f];exact gW az
 have g3:h1 c3=C ⟨.cells #[.slice (C ⟨ba,0,o0⟩) 2 2,.slice (C ⟨bd,0,o0⟩) 2 2,.int .i64 20,.int .i64 1] 119 (0,0),J⟩:=by rw[<- f,cI]
 clear f;generalize f:h1.put c4 _=h2 at E r ⊢;have w:h1.ar h2:=by rw[<- f];exact gW I
 have g4:h2 c4=C ⟨.cells #[.int .i64 bS] 3 (0,0),J⟩:=by rw[<- f,cI]
 clear f;generalize f:h2.put c5 _=h3 at r ⊢;have v:h2.ar h3:=by rw[<- f];exact gW E
 have g5:h3 c5=C ⟨.cells #[.func (.func fC) #[] fF] 135 (0,0),J⟩:=by rw[<- f,cI]
 clear f;generalize f:h3.put c6 _=h4;have G:h3.ar h4:=by rw[<- f];exact gW r
 have P:h4 c6=C ⟨.cells #[.slice o0 0 0,.int .i64 0] 131 (0,0),J⟩:=by rw[<- f,cI]
 clear f;simp only[aO,seval,akj];refine ag3 D 8 λs1 mu D1 hp eA=> ?_;simp only[aO,seval,aki];refine ag4 D1 λs2 wg D2 hs eE=> ?_;simp only[aO,seval,akh];rw[vX (K:=⟨_⟩) Ll];intro bb a6;rw[cl];generalize f:h4.put bb _=h5;have R:h4.ar h5:=by rw[<- f];exact gW a6
 have a7:h5 bb=C ⟨.cells #[.slice o0 0 0,.int .i64 0] 131 (0,0),J⟩:=by rw[<- f,cI]
 clear f;simp only[aO,seval,akg];rw[vX (K:=⟨_⟩) nM];intro fb L;rw[show(Value.bool q9).cells=#[.bool q9]from rfl];have eF:∀K:ae->Prop,al pv (Instr.storeAt 4 (.pointer (C ⟨fb,0,o0⟩)) (.bool q9)) (h5.put fb ⟨.cells #[.bool q9] 4,J⟩) (K:=⟨λ_=>K⟩)=K ((h5.put fb ⟨.cells #[.bool q9] 4,J⟩).put fb ⟨.cells #[.bool q9] 4 (0,0),J⟩):=λK=>nN SU cI K;simp only[aO,seval,eF,oS];generalize f:h5.put fb _=h6;have M:h5.ar h6:=by rw[<- f];exact gW L
 have cM:h6 fb=C ⟨.cells #[.bool q9] 4 (0,0),J⟩:=by rw[<- f,cI]
 clear f;have l3:∀(b:aS) (K:av->ae->o5->Prop),@eX pv J _ (SM 203 210 os0 Post) b 119 (.pointer (C ⟨c3,0,o0⟩)) s2 h6 ⟨K⟩=K s2 h6 (yz ba bd):=λb K=>SY (K:=⟨K⟩) SZ (M _ _ (R _ _ (G _ _ (v _ _ (w _ _ g3)))));simp only[aO,seval,akf,ake,l3];obtain⟨eL,eT⟩:=aj2 (main:=J) (Sy:=SM 203 210 os0 Post) (s:=s2) (h:=h6) ep;refine .inl ⟨eL,eT.mono λfe h7 v7 q=> ?_⟩;obtain⟨rfl,a8,b,k0,arr,bc,rfl,gb,e0,e3,bh⟩:=q;simp only[aO,seval,aks,akd,akc];generalize S:h7.del (ks fb bb)=aI;have W:fb≠bb:=λe=>by subst e;rw[a7]at L;cases L
 have e4:=le_trans M a8;have yh:∀x y,h4 x=C y->x≠bb/\x≠fb:=λx y a=>⟨(λe=>by subst e;rw[a]at a6;cases a6),(λe=>by subst e;rw[R _ _ a]at L;cases L)⟩;have del:∀x,x≠bb->x≠fb->aI x=h7 x:=λx bK bR=>by rw[<- S];unfold ae.del;rw[Tz bR bK];rfl
 have N:∀x y,h4 x=C y->aI x=C y:=λx y a=>by rw[del x (yh x y a).1 (yh x y a).2];exact e4 _ _ (R _ _ a)
 have dd:∀x,h6 x=o0->x≠bb/\x≠fb:=λx a=>⟨(λe=>by subst e;rw[M _ _ a7]at a;cases a),(λe=>by subst e;rw[cM]at a;cases a)⟩;have A6:∀x,h6 x=o0->aI x=h7 x:=λx a=>del x (dd x a).1 (dd x a).2;have X:∀x y,h x=C y->aI x=C y:=λx y a=>N _ _ (G _ _ (v _ _ (w _ _ (F _ _ a))));have Cz:Ty aI c3 c4 c5 b fb bb ba bd bS fC fF arr bc B:=⟨N _ _ (G _ _ (v _ _ (w _ _ g3))),N _ _ (G _ _ (v _ _ g4)),N _ _ (G _ _ g5),by rw[A6 b e0];exact gb,e3,λj hj=>by unfold pN;rw[A6 _ (bh j hj).2];exact(bh j hj).1,by rw[<- S];unfold ae.del ks;simp,by rw[<- S];unfold ae.del ks;rw[if_neg (Ne.symm W)];simp,W,sub h aI gy λx _ y hy=>⟨y.own,X x y hy⟩⟩;have A7:∀x y,aI x=C y->h7 x=C y:=λx y a=>by
  rw[<- S]at a;unfold ae.del at a;split at a
  .cases a
  .exact a
 have J0:AP aI (wy c3 c4 c5 bc bl) s.aG mu wg fb bb (yB s.aG bS nf gf) 0 fe h7:=⟨λx y a=>⟨y.own,A7 x y a⟩,λx y a _=>A7 x y a,.inl ⟨rfl,D2,by rw[eE,eA],λx y a=>by
  rcases akx a with e|e
  .subst e;unfold ks at a;rw[if_pos rfl]at a;cases a;exact a8 _ _ cM
  .subst e;unfold ks at a;rw[if_neg (Ne.symm W),if_pos rfl]at a;cases a;exact a8 _ _ (M _ _ a7)⟩⟩
 clear D D1 D2;refine du (λm e d s' h'=>d=[]/\∃j:Nat,j<=8/\m=8- j/\AP aI (wy c3 c4 c5 bc bl) s.aG mu wg fb bb (yB s.aG bS nf gf) j s' h'/\e 3=aY c3/\e 4=aY c4/\e 5=aY c5/\e 6=aY c6/\e 8=aY mu/\e 9=aY wg/\e 10=aY bb/\e 11=aY fb/\e 15=.slice (C ⟨b,0,o0⟩) 8 k0/\e 16=.int .i64 8/\e 17=.int .i64 j) (λm e d s' h' Jz=> ?_) (m:=8) ⟨rfl,0,U,rfl,J0,by simp[aL,aY],by simp[aL,aY],by simp[aL,aY],by simp[aL,aY],by simp[aL,aY],by simp[aL,aY],by simp[aL,aY],by simp[aL,aY],by simp[aL],by simp[aL],by simp[aL]⟩;obtain⟨rfl,j,hj,rfl,Jz,v3,v4,v5,v6,v8,v9,b9,cc,dx,bm,bn⟩:=Jz;by_cases e7:j=8
 .subst e7;have dA:decide (((8:Nat):Int)<8)=q9:=aty
  simp only[aO,seval,Tu,Tt,Ts,aj5,bm,bn,v9];rcases Jz.LQ with⟨h0,_⟩|⟨_,Bz,hv⟩
  .omega
  refine .inl ⟨aiQ,Lh Bz.m.aG Bz.m.on λ_ hw=>(aiW Bz U (by rw[Bz.m.wg]at hw;exact hw)).mono λjC h9 v9 q=> ?_⟩;obtain⟨hL,aT,w1,w2,w3,w4,w5,rfl,w7⟩:=q;rcases w3.1 with⟨e8,_⟩|⟨Q,c,a0,b0,p,k,A,e9,ad,bt,hD,hE,fa,bK,bR,fc,fg,rfl⟩
  .exfalso;have f:=w5 (s.aG+kx) U U;rw[e8]at f;have e2:yB s.aG bS nf gf (s.aG+kx)=jB bS nf gf (hY kx) 8:=by unfold yB;rw[ax3]
   rw[e2]at f;rw[<- f]at ag;cases ag
  .have hr:s.aG<=Q/\Q<s.aG+8:=by refine Classical.byContradiction λhn=> ?_;have:=w3.2 Q U;rw[this]at ad;cases ad
   have fs:c=cs:=by have f:=w5 Q hr.1 U;rw[f]at ad;refine eu (Q- s.aG) U c ad (fa (s.aG+kx) cs ?_);rw[w5 (s.aG+kx) U U];show cs∈jB bS nf gf (hY (s.aG+kx- s.aG)) 8;rw[ax3];exact ag
   subst fs;rw[er]at bt;obtain⟨rfl,rfl⟩:ca=a0/\cb=b0:=by simp at bt;exact bt
   have ft:iV fb bb p k c.1 A fb=C ⟨.cells #[.bool J] 4 (0,0),J⟩:=by unfold iV;rw[if_pos rfl]
   have fx:iV fb bb p k c.1 A bb=C ⟨.cells #[.slice (C ⟨p,0,o0⟩) 2 k,.int .i64 c.1] 131 (0,0),J⟩:=by unfold iV;rw[if_neg (Ne.symm W),if_pos rfl]
   have b3:iV fb bb p k c.1 A p=C ⟨.cells A 57 (0,0),J⟩:=by unfold iV;rw[if_neg bK,if_neg bR,if_pos rfl]
   have add:∀x y,iV fb bb p k c.1 A x=C y->(h'.add (iV fb bb p k c.1 A)) x=C y:=λx y a=>by unfold ae.add;rw[w7 x y a];exact a
   have ck:∀x y,h' x=C y->(h'.add (iV fb bb p k c.1 A)) x=C y:=λx y a=>by unfold ae.add;rw[a]
   have hG:h4 c6=C ⟨.cells #[.slice o0 0 0,.int .i64 0] 131 (0,0),J⟩:=P;have nD:∀x y,h4 x=C y->(h3 x=o0\/∃z,h x=C z/\x∉bl)->x∉wy c3 c4 c5 bc bl:=λx y a g l=>by
    unfold wy at l;rcases List.mem_append.1 l with l|l
    .rcases List.mem_append.1 l with l|l
     .simp only[List.mem_cons,List.not_mem_nil,or_false]at l;rcases g with g|⟨z,H,_⟩
      .rcases l with rfl|rfl|rfl
       .rw[v _ _ (w _ _ g3)]at g;cases g
       .rw[v _ _ g4]at g;cases g
       .rw[g5]at g;cases g
      .rcases l with rfl|rfl|rfl
       .rw[H]at az;cases az
       .rw[F _ _ H]at I;cases I
       .rw[w _ _ (F _ _ H)]at E;cases E
     .obtain⟨q,hq,rfl⟩:=List.mem_map.1 l;have:=(bh q (by simpa using hq)).2;rw[M _ _ (R _ _ a)]at this;cases this
    .rcases g with g|⟨z,H,gi⟩
     .obtain⟨z,H⟩:=et x l;rw[v _ _ (w _ _ (F _ _ H))]at g;cases g
     .exact gi l
   have b4:h' c6=C ⟨.cells #[.slice o0 0 0,.int .i64 0] 131 (0,0),J⟩:=Jz.cP c6 _ (N _ _ P) (nD c6 _ P (.inl r));simp only[aO,seval,aj4,aj3];intro t;refine akA (bb:=bb) (fb:=fb) (c6:=c6) (p:=p) (k:=k) (n:=c.1) (by simp[aL,v6]) (by simp[aL,b9]) (by simp[aL,cc]) (λe=>(yh c6 _ P).1 e.symm) (λe=>(yh c6 _ P).2 e.symm) (ck _ _ b4) (add _ _ fx) (add _ _ ft) (λe' hO b5 hl gj gm=> ?_) t;simp only[aO,seval];have ea:∀x y,h x=C y->x≠c6:=λx y a e=>by subst e;rw[v _ _ (w _ _ (F _ _ a))]at r;cases r
   refine aq4 gj gm hl ⟨w1,λx y a=> ?_,λx y a gp=> ?_,p,k,rfl,?_,A,e9,?_,fc,fg⟩
   .obtain⟨o,q⟩:=Jz.cE x y (X x y a);exact⟨o,b5 _ _ (ea x y a) (ck _ _ q)⟩
   .exact b5 _ _ (ea x y a) (ck _ _ (Jz.cP x y (X x y a) (nD x y (G _ _ (v _ _ (w _ _ (F _ _ a)))) (.inr ⟨y,a,gp⟩))))
   .cases g:h p with
    |none=>rfl
    |some y=>obtain⟨o,q⟩:=Jz.cE p y (X p y g);rw[w7 p _ b3]at q;cases q
   .exact b5 _ _ (λe=>by subst e;rw[w7 _ _ b3]at b4;cases b4) (add _ _ b3)
 .have dA:decide ((j:Int)<8)=J:=atB
  simp only[aO,seval,Tu,Tt,Ts,bm,bn,dA];refine akz (b:=b) (k0:=k0) Cz gz sub eo Jz U (by simp[aL,v3]) (by simp[aL,v4]) (by simp[aL,v5]) (by simp[aL,v8]) (by simp[aL,v9]) (by simp[aL,b9]) (by simp[aL,cc]) (by simp[aL,dx]) (by simp[aL,bn]) λe' hH hI J' u gx=> ?_;simp only[aO,seval];exact⟨8- (j+1),U,trivial,j+1,U,rfl,J',by rw[u 3 U];simp[aL,v3],by rw[u 4 U];simp[aL,v4],by rw[u 5 U];simp[aL,v5],by rw[u 6 U];simp[aL,v6],by rw[u 8 U];simp[aL,v8],by rw[u 9 U];simp[aL,v9],by rw[u 10 U];simp[aL,b9],by rw[u 11 U];simp[aL,cc],by rw[u 15 U];simp[aL,dx],by rw[u 16 U];simp[aL,bm],gx⟩
end
end
end Go.Nk
