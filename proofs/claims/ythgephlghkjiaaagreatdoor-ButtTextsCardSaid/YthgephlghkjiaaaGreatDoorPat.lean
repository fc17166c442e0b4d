/- Part Pat of the proof of ButtTexts: lemmas. -/
import Derived.Test.YthgephlghkjiaaaGreatDoorPas
set_option maxRecDepth 100000
set_option maxHeartbeats 4000000
set_option linter.all false
namespace Go.Nk
noncomputable section
open Go Go.Conc Go.Proofs
open Bool renaming true->J,false->q9,false_and->auH,and_false->auV,and_self->awj,eq_iff_iff->avL,false_ne_true->W3,and_eq_true->vh
open Go renaming Value->o5,Program->tb,IntKind->E1,MapEntry->HP,eqGuard->W2
open Go.Instr renaming index->auG,build->atW,indexAt->auX,sliceAt->K0,sameNow->axs,findNow->avN,lookup->awr,findKey->ayQ,mapUpdate->axm,makeMap->axk
open Go.Proofs.Tryz renaming prog->pv,results287->aB5,results278->aAx,results288->aB6,results280->aAy,results190->aB7,results189->aB8,results163->aCb,results290->aAA
open List renaming mem_take_iff_getElem->aAw,take_add_one->atC,mem_append->D3,take_length->N3,append_nil->auI,getElem_mem->N0,take_of_length_le->aw4,mem_singleton->auJ,mem_iff_getElem?->avd,getElem?_eq_some_iff->F1,length_append->M3,length_singleton->azc,all_eq_true->G0,map_append->auu
open Nat renaming lt_or_ge->vy,beq->td,le_refl->vr,eq_zero_or_pos->axf
open Option renaming some->C,none->o0
section
variable{main:Bool}{ai:Type}{S:Sys ai}{s:ai}{h:ae}
def Ue:bz pv 15=J:=O
def Uf{v:o5}{x:Ground}(hv:kL h v x):bo pv main S 15 #[v] s h λs' h' z=>s'=s/\h.ar h'/\z=.int .i64 x.dr:=by
 refine bL (args:=[v]) Tryz.func15 (by delta Tryz.f15;rfl) Tryz.ntmps15 Y O ?_;obtain⟨v1,v2,rfl,cl,bs⟩:=hv;obtain⟨p,o,c,rfl,hp⟩:=bs.four;have cp:kL h (.agg #[v1,.slice p x.c7.length c]) x:=⟨v1,_,rfl,cl,bs⟩;generalize X:x.c7=g at*
 simp only[ah,seval];intro c1 h1 cM e1;have n:=bU cM e1;have L:=bw e1;simp only[ah,seval,L];have done:∀(q:Int) (e:Env) (h3:ae),h.ar h3->e 2=.int .i64 q->x.dr=q->dT pv Tryz.f15 (λs' h' z=>s'=s/\h.ar h'/\z=.int .i64 x.dr) 67 e [] s h3:=λq e h3 l3 Q N=>
  bu Tryz.results15 Y ⟨rfl,l3,by rw[Q,N]⟩
 refine cd al1 (al2 (cp.le n)) λs1 F ed ⟨B,ab,M⟩=> ?_;subst B;subst M;by_cases H:x.jj=0
 case neg=>
  have ex:(x.jj != 0)=J:=by simpa using H
  simp only[ah,seval,ex];exact done x.jj _ _ (n.ay ab) atA (Ground.yK rfl H)
 rw[H];have L:=ab _ _ L;have n:=n.ay ab;generalize F=h1 at L n;simp only[ah,seval,L,(atz:((0:Int) != 0)=q9)];by_cases n4:g.length>6
 .simp only[ah,seval,decide_eq_true (U:(g.length:Int)>6)];exact done 2 _ _ n atA (Ground.AT H (T8 X n4))
 simp only[ah,seval,decide_eq_false (U:¬(g.length:Int)>6)];refine du (I:=λk e d sx bl=>∃i:Nat,k=g.length- i/\i<=g.length/\e 1=aV c1 0/\e 4=.int .i64 i/\d=[]/\sx=s1/\h1.ar bl/\mJ (g.take i)) (λk e d sx bl hI=> ?_) (m:=g.length) ⟨0,Y,U,atA,atA,rfl,rfl,λ_ _ q=>q,by simp[mJ]⟩;obtain⟨i,rfl,ee,ag,e5,rfl,az,A,P⟩:=hI;subst az;have k1:=A _ _ L;simp only[ah,seval,ag,e5,k1];rcases vy i g.length with hc|hc
 .obtain⟨mb,rfl,arr,q,f,w,hm,bt⟩:=hp.resolve_left U;obtain⟨a0,a1,a2,a3⟩:=bt i hc;simp only[bO]at a1 a2 a3;have gm:=A _ _ (n _ _ hm);simp only[ah,seval,decide_eq_true (U:(i:Int)<g.length),ag,e5,k1,gm,a0,a1,a2,a3];intro c3 h3 a6 e3;have g3:=bw e3;simp only[ah,seval,g3];intro h4 Q;have R:=bw Q;have D:bl.ar h4:=dM (bU a6 e3) a6 Q;have k4:=D _ _ k1;clear e3 g3 a6;have b4:g.take (i+1)=g.take i++[g[i]]:=Y
  have G:∀f,nc (g.take i) g[i]=f->f≠0->x.dr=f:=λf a b=>Ground.AT H (Ua X n4 P hc a b);generalize g[i]=r at R b4 G ⊢;simp only[ah,seval,R];refine ev Ud (TB _ _ _) ?_;cases B:gR r.name with
  |false=>simp only[ah,seval];exact done 4 _ _ (n.ay (A.ay D)) atA (G _ (TU B) aty)
  |true=>
  simp only[ah,seval];refine du (I:=λk e d s2 F=>∃j:Nat,k=i- j/\j<=i/\e 1=aV c1 0/\e 4=.int .i64 i/\e 5=aV c3 0/\e 6=.int .i64 j/\d=[]/\s2=sx/\h4.ar F/\∀y∈g.take j,y.name≠r.name) (λk e d s2 F hI=> ?_) (m:=i) ⟨0,Y,U,by simp[ak,ag],by simp[ak,e5],atA,atA,rfl,rfl,λ_ _ q=>q,Y⟩;obtain⟨j,rfl,hj,a7,a8,K,ba,rfl,az,u,hb⟩:=hI;subst az;simp only[ah,seval,ba,a8];rcases vy j i with de|de
  .simp only[ah,seval,decide_eq_true (U:(j:Int)<i),fI];have b5:j<g.length:=U
   obtain⟨b0,_⟩:=bt j b5;have gc:∀h,F.ar h->h c1=_:=λh le=>le _ _ (u _ _ k4);have ds:∀h,F.ar h->h c3=_:=λh le=>le _ _ (u _ _ R);have dt:∀h,F.ar h->h mb=_:=λh le=>le _ _ (u _ _ (D _ _ gm));have bd:decide ((j:Int)<g.length)=J:=atB
   intro t;refine kv eR O O ?_ t
   repeat refine gF (λh1 le=>by simp only[ah,seval,cJ,le,a7,K,ba,gc,ds,dt,b0,bd,gg];exact⟨λ_ _ q=>q,rfl⟩) ?_
   rw[jN];intro h5 b6;cases N:(g[j].name==r.name)with
   |true=>simp only[ah,seval];refine done 5 _ _ (n.ay (A.ay (D.ay (u.ay b6)))) atA (G _ (TV B ⟨g[j],?_,by simpa using N⟩) aty);exact aAw.2 ⟨j,U,rfl⟩
   |false=>
    simp only[ah,seval,ba];refine⟨_,?_,j+1,rfl,U,by simp[a7],by simp[a8],by simp[K],by simp[cq (x:=(j:Int)+1) U U],u.ay b6,λl E=> ?_⟩
    .omega
    .rw[atC,D3]at E;rcases E with E|E
     .exact hb l E
     .simp[b5]at E;subst E;simpa using N
  .have:j=i:=U
   subst this;have W:=u _ _ R;simp only[ah,seval,decide_eq_false (U:¬(j:Int)<j),K,W];refine ev oB (oC _ _ _ _ _) ?_;cases q2:(decide ((1:Int)<=r.size)&&decide (r.size<=150))with
   |false=>simp only[ah,seval];exact done 1 _ _ (n.ay (A.ay (D.ay u))) atA (G _ (yM B hb (by simp only[eJ,q2,auH])) aty)
   |true=>
   simp only[ah,seval,K,W];refine ev oB (oC _ _ _ _ _) ?_;cases M:(decide ((1:Int)<=r.ff)&&decide (r.ff<=90))with
   |false=>simp only[ah,seval];exact done 1 _ _ (n.ay (A.ay (D.ay u))) atA (G _ (yM B hb (by simp only[eJ,M,auH,auV])) aty)
   |true=>
   simp only[ah,seval,K,W];refine ev oB (oC _ _ _ _ _) ?_;cases q4:(decide ((1:Int)<=r.cX)&&decide (r.cX<=90))with
   |false=>simp only[ah,seval];exact done 1 _ _ (n.ay (A.ay (D.ay u))) atA (G _ (yM B hb (by simp only[eJ,q4,auV])) aty)
   |true=>
   simp only[ah,seval,K,W];by_cases q5:r.ff>r.cX
   .simp only[ah,seval,decide_eq_true q5];exact done 7 _ _ (n.ay (A.ay (D.ay u))) atA (G _ (TW B hb (by simp only[eJ,q2,M,q4,awj]) U) aty)
   simp only[ah,seval,decide_eq_false q5,a8];refine⟨_,?_,j+1,rfl,U,by simp[a7],by simp[cq (x:=(j:Int)+1) U U],A.ay (D.ay u),?_⟩
   .omega
   .rw[b4,E0];exact⟨P,by simp only[pR,eJ,B,q2,M,q4,decide_eq_true (U:r.ff<=r.cX),awj],hb⟩
 .simp only[ah,seval,decide_eq_false (U:¬(i:Int)<g.length)];have dx:i=g.length:=U
  rw[dx,N3]at P;exact done 0 _ _ (n.ay A) atA (Ground.AT H (Ground.Mi.2 (by rw[X];exact⟨U,P⟩)))
end
abbrev dO(f:Nat)(l:List o5):o5:=.func (.func f) #[] ⟨l⟩
section
variable{main:Bool}{ai:Type}{S:Sys ai}{s:ai}{h:ae}
def al3:bz pv 278=J:=O
def al4:bz pv 279=J:=O
def al5:bz pv 280=J:=O
def al6:bz pv 281=J:=O
def al7:bz pv 282=J:=O
def al8:bz pv 283=J:=O
def al9:bz pv 284=J:=O
def ama:bz pv 285=J:=O
def amb:bz pv 286=J:=O
def amc:bz pv 287=J:=O
def amd:bz pv 288=J:=O
def mK{P:tb}{f:FuncId}{args:Array o5}{l:List o5}{h:ae}[K:KK Next](ck:bz P f=J):al P (rD (dO f l) args) h=K.f (.enter f ⟨args.toList++l⟩) h:=by rw[zJ ck];have e:(#[]++args++⟨l⟩:Array o5)=⟨args.toList++l⟩:=Array.toList_inj.1 Y;rw[e]
def ame(n:Int):Pure pv main S 279 #[.int .i64 n] (.bool (nP n)):=by intro s h;refine bL (args:=[.int .i64 n]) Tryz.func279 (by delta Tryz.f279;rfl) Tryz.ntmps279 Y O ?_;simp only[ah,seval];refine ev oX (oY _ _ _ _ _) ?_;simp only[ah,seval];exact bu Tryz.results279 Y (by simp[ak,nP])
def amf(p:Int×Int)(lo hi:Int):bo pv main S 282 #[gk p,.int .i64 lo,.int .i64 hi] s h λe h' v=>e=s/\h.ar h'/\v=.bool (decide (p.1<=p.2)&&(decide (lo<=p.1)&&decide (p.2<=hi))):=by refine bL (args:=[gk p,.int .i64 lo,.int .i64 hi]) Tryz.func282 (by delta Tryz.f282;rfl) Tryz.ntmps282 Y O ?_;simp only[ah,seval,gk];intro c h1 hc d;have le:=bU hc d;have g:=bw d;by_cases a:p.1<=p.2<;>by_cases b:lo<=p.1<;>simp only[ah,seval,g,a,b]<;>exact bu Tryz.results282 Y ⟨rfl,le,atA⟩
def rX(p:Int×Int):Bool:=decide (p.1<=p.2)&&(decide (0<=p.1)&&decide (p.2<=999))
def Ug(p:Int×Int):rX p=na p 0 999:=by rw[avL];simp[rX,na];omega
def amg(p:Int×Int):bo pv main S 281 #[gk p] s h λf h' v=>f=s/\h.ar h'/\v=.bool (rX p):=by refine bL (args:=[gk p]) Tryz.func281 (by delta Tryz.f281;rfl) Tryz.ntmps281 Y O ?_;simp only[ah,seval,gk];intro c h1 hc a;have le:=bU hc a;have g:=bw a;simp only[ah,seval,g];refine cd al7 (amf p 0 999) λi j v ⟨b,d,e⟩=> ?_;subst b;subst e;simp only[ah,seval];exact bu Tryz.results281 Y ⟨rfl,le.ay d,by simp[ak,rX]⟩
def amh{c:Nat}{n:Int}{w:Bool}{f:Nat×Nat}{q:Nat}(g:h c=C ⟨.cells #[dO 279 []] q f,w⟩):bo pv main S 284 #[.int .i64 n,aV c 0] s h λe h' v=>e=s/\h.ar h'/\v=.bool (!nP n):=by refine bL (args:=[.int .i64 n,aV c 0]) Tryz.func284 (by delta Tryz.f284;rfl) Tryz.ntmps284 Y O ?_;simp only[ah,seval,g,mK,al4,auI];refine(ame _ _ _).mono λi j v ⟨a,b,d⟩=> ?_;subst a;subst b;subst d;simp only[ah,seval];exact bu Tryz.results284 Y ⟨rfl,.cO _,atA⟩
def ami{v:o5}{l:List Int}{c:Nat}{w:Bool}{f:Nat×Nat}{q:Nat}(F:ig h v l)(hl:l.length<=1000)(g:h c=C ⟨.cells #[dO 279 []] q f,w⟩):bo pv main S 287 #[v,dO 284 [aV c 0]] s h λQ h' z=>Q=s/\h.ar h'/\∃r,z=.int .i64 r/\(0<=r↔∃n∈l,nP n=q9):=by
 refine bL (args:=[v,dO 284 [aV c 0]]) Tryz.func287 (by delta Tryz.f287;rfl) Tryz.ntmps287 Y O ?_;obtain⟨b,o,G,rfl,hb⟩:=dE.AU F;simp only[ah,seval];refine du (I:=λk e d y B=>∃i:Nat,k=l.length- i/\i<=l.length/\e 0=.slice b l.length G/\e 1=dO 284 [aV c 0]/\e 7=.int .i64 l.length/\e 8=.int .i64 i/\d=[]/\y=s/\h.ar B/\∀n∈l.take i,nP n=J) (λk e d y B H=> ?_) (m:=l.length) ⟨0,Y,U,atA,atA,atA,atA,rfl,rfl,.cO _,Y⟩;obtain⟨i,rfl,hi,e0,D,E,p,rfl,K,a,t⟩:=H;subst K;simp only[ah,seval,E,p];rcases vy i l.length with hc|hc
 .obtain⟨mb,rfl,arr,u,dQ,w2,R,L⟩:=hb.resolve_left U;have W:=L i hc;have M:=a _ _ R;have X:=a _ _ g;simp only[ah,seval,decide_eq_true (U:(i:Int)<l.length),e0,D,p,M,W,mK,al9];refine(amh X).mono λfe h3 v ⟨N,u,P⟩=> ?_;subst N;subst P;cases j:nP l[i]with
  |false=>simp only[ah,seval];exact bu aB5 Y ⟨rfl,a.ay u,i,atA,λ_=>⟨_,N0 hc,j⟩,λ_=>by omega⟩
  |true=>
   simp only[ah,seval,p];refine⟨_,?_,i+1,rfl,U,by simp[e0],by simp[D],by simp[E],by simp[cq (x:=(i:Int)+1) U U],a.ay u,λn A=> ?_⟩
   .omega
   .rw[atC,D3]at A;rcases A with q|q
    .exact t n q
    .simp[hc]at q;subst q;exact j
 .simp only[ah,seval,decide_eq_false (U:¬(i:Int)<l.length)];refine bu aB5 Y ⟨rfl,a,-1,atA,λq=>by omega,λ⟨n,j,q⟩=> ?_⟩;rw[aw4 hc]at t;rw[t n j]at q;cases q
def amj{v:o5}{l:List Int}{c:Nat}{w:Bool}{f:Nat×Nat}{q:Nat}(a:ig h v l)(d:l.length<=1000)(g:h c=C ⟨.cells #[dO 279 []] q f,w⟩):bo pv main S 283 #[v,dO 284 [aV c 0]] s h λm h' z=>m=s/\h.ar h'/\∃r,z=.bool r/\(r=J↔∃n∈l,nP n=q9):=by refine bL (args:=[v,dO 284 [aV c 0]]) Tryz.func283 (by delta Tryz.f283;rfl) Tryz.ntmps283 Y O ?_;obtain⟨b,o,p,aA,_⟩:=dE.AU a;subst aA;simp only[ah,seval];refine cd amc (ami a d g) λt u z ⟨e,i,r,j,k⟩=> ?_;subst e;subst j;simp only[ah,seval];exact bu Tryz.results283 Y ⟨rfl,i,_,by simp[ak];rfl,by simp[k]⟩
def amk{v:o5}{l:List Int}(i:ig h v l)(p:l.length<=1000):bo pv main S 278 #[v,dO 279 []] s h λu h' z=>u=s/\h.ar h'/\z=.int .i64 (oZ l):=by
 refine bL (args:=[v,dO 279 []]) Tryz.func278 (by delta Tryz.f278;rfl) Tryz.ntmps278 Y O ?_;obtain⟨b,o,w,aA,_⟩:=dE.AU i;subst aA;simp only[ah,seval];intro c h1 hc m;have le:=bU hc m;have g:=bw m;by_cases a:l.length=4
 case neg=>
  have e:((l.length:Int) != 4)=J:=atB
  simp only[ah,seval,e];exact bu aAx Y ⟨rfl,le,by simp[ak,oZ,EX a]⟩
 have e:((l.length:Int) != 4)=q9:=atB
 simp only[ah,seval,e];refine cd al8 (amj (i.le le) p g) λx y z ⟨q,j,r,t,k⟩=> ?_;subst q;subst t;cases r with
 |true=>simp only[ah,seval];obtain⟨n,d,f⟩:=k.1 rfl;exact bu aAx Y ⟨rfl,le.ay j,by simp[ak,oZ,EY a d f]⟩
 |false=>
  have h0:oZ l=0:=yJ.2 ⟨a,λn d=>by
   cases f:nP n with
   |true=>rfl
   |false=>exact(W3 (k.2 ⟨n,d,f⟩)).elim⟩
  simp only[ah,seval];exact bu aAx Y ⟨rfl,le.ay j,by simp[ak,h0]⟩
end
section
variable{main:Bool}{ai:Type}{S:Sys ai}{s:ai}{h:ae}
def aml{c:Nat}{n:Int×Int}{w:Bool}{f:Nat×Nat}{q:Nat}(g:h c=C ⟨.cells #[dO 281 []] q f,w⟩):bo pv main S 286 #[gk n,aV c 0] s h λj h' v=>j=s/\h.ar h'/\v=.bool (!rX n):=by refine bL (args:=[gk n,aV c 0]) Tryz.func286 (by delta Tryz.f286;rfl) Tryz.ntmps286 Y O ?_;simp only[ah,seval,gk];intro c1 h1 b a;have le:=bU b a;have k:=bw a;have l:=le _ _ g;simp only[ah,seval,l,k,mK,al6,auI];refine(amg n).mono λm o v ⟨d,e,i⟩=> ?_;subst d;subst i;simp only[ah,seval];exact bu Tryz.results286 Y ⟨rfl,le.ay e,atA⟩
def amm{v:o5}{l:List (Int×Int)}{c:Nat}{w:Bool}{f:Nat×Nat}{q:Nat}(F:rW h v l)(hl:l.length<=1000)(g:h c=C ⟨.cells #[dO 281 []] q f,w⟩):bo pv main S 288 #[v,dO 286 [aV c 0]] s h λQ h' z=>Q=s/\h.ar h'/\∃r,z=.int .i64 r/\(0<=r↔∃n∈l,rX n=q9):=by
 refine bL (args:=[v,dO 286 [aV c 0]]) Tryz.func288 (by delta Tryz.f288;rfl) Tryz.ntmps288 Y O ?_;obtain⟨b,o,G,rfl,hb⟩:=dE.AV F;simp only[ah,seval];refine du (I:=λk e d y B=>∃i:Nat,k=l.length- i/\i<=l.length/\e 0=.slice b l.length G/\e 1=dO 286 [aV c 0]/\e 7=.int .i64 l.length/\e 8=.int .i64 i/\d=[]/\y=s/\h.ar B/\∀n∈l.take i,rX n=J) (λk e d y B H=> ?_) (m:=l.length) ⟨0,Y,U,atA,atA,atA,atA,rfl,rfl,.cO _,Y⟩;obtain⟨i,rfl,hi,e0,D,E,p,rfl,K,a,t⟩:=H;subst K;simp only[ah,seval,E,p];rcases vy i l.length with hc|hc
 .obtain⟨mb,rfl,arr,u,dQ,w2,R,L⟩:=hb.resolve_left U;obtain⟨W,a1⟩:=L i hc;have M:=a _ _ R;have X:=a _ _ g;simp only[ah,seval,decide_eq_true (U:(i:Int)<l.length),e0,D,p,M,W,a1,mK,amb];refine(aml X).mono λfe h3 v ⟨N,u,P⟩=> ?_;subst N;subst P;cases j:rX l[i]with
  |false=>simp only[ah,seval];exact bu aB6 Y ⟨rfl,a.ay u,i,atA,λ_=>⟨_,N0 hc,j⟩,λ_=>by omega⟩
  |true=>
   simp only[ah,seval,p];refine⟨_,?_,i+1,rfl,U,by simp[e0],by simp[D],by simp[E],by simp[cq (x:=(i:Int)+1) U U],a.ay u,λn A=> ?_⟩
   .omega
   .rw[atC,D3]at A;rcases A with q|q
    .exact t n q
    .simp[hc]at q;subst q;exact j
 .simp only[ah,seval,decide_eq_false (U:¬(i:Int)<l.length)];refine bu aB6 Y ⟨rfl,a,-1,atA,λq=>by omega,λ⟨n,j,q⟩=> ?_⟩;rw[aw4 hc]at t;rw[t n j]at q;cases q
def amn{v:o5}{l:List (Int×Int)}{c:Nat}{w:Bool}{f:Nat×Nat}{q:Nat}(a:rW h v l)(d:l.length<=1000)(g:h c=C ⟨.cells #[dO 281 []] q f,w⟩):bo pv main S 285 #[v,dO 286 [aV c 0]] s h λm h' z=>m=s/\h.ar h'/\∃r,z=.bool r/\(r=J↔∃n∈l,rX n=q9):=by refine bL (args:=[v,dO 286 [aV c 0]]) Tryz.func285 (by delta Tryz.f285;rfl) Tryz.ntmps285 Y O ?_;obtain⟨b,o,p,aA,_⟩:=dE.AV a;subst aA;simp only[ah,seval];refine cd amd (amm a d g) λt u z ⟨e,i,r,j,k⟩=> ?_;subst e;subst j;simp only[ah,seval];exact bu Tryz.results285 Y ⟨rfl,i,_,by simp[ak];rfl,by simp[k]⟩
def amo{v:o5}{l:List (Int×Int)}(i:rW h v l)(q:l.length<=1000):bo pv main S 280 #[v,dO 281 []] s h λw h' z=>w=s/\h.ar h'/\z=.int .i64 (o7 l):=by
 refine bL (args:=[v,dO 281 []]) Tryz.func280 (by delta Tryz.f280;rfl) Tryz.ntmps280 Y O ?_;obtain⟨b,o,x,aA,_⟩:=dE.AV i;subst aA;simp only[ah,seval];intro c h1 hc m;have le:=bU hc m;have g:=bw m;by_cases d:l.length=4
 case neg=>
  have f:((l.length:Int) != 4)=J:=atB
  simp only[ah,seval,f];exact bu aAy Y ⟨rfl,le,by simp[ak,o7,EX d]⟩
 have f:((l.length:Int) != 4)=q9:=atB
 simp only[ah,seval,f];refine cd ama (amn (i.le le) q g) λy A z ⟨t,j,r,u,k⟩=> ?_;subst t;subst u;cases r with
 |true=>simp only[ah,seval];obtain⟨n,e,a⟩:=k.1 rfl;rw[Ug]at a;exact bu aAy Y ⟨rfl,le.ay j,by simp[ak,o7,EY (g:=λp=>na p 0 999) d e a]⟩
 |false=>
  have h0:o7 l=0:=yJ.2 ⟨d,λn e=>by
   rw[<- Ug];cases a:rX n with
   |true=>rfl
   |false=>exact(W3 (k.2 ⟨n,e,a⟩)).elim⟩
  simp only[ah,seval];exact bu aAy Y ⟨rfl,le.ay j,by simp[ak,h0]⟩
end
section
variable{main:Bool}{ai:Type}{S:Sys ai}{s:ai}{h:ae}
def amp:bz pv 275=J:=O
def amq:bz pv 276=J:=O
def amr:bz pv 277=J:=O
def Uh:bz pv 32=J:=O
def bY.fits(x:bY):Prop:=(∀l∈x.b2,l.length<=1000)/\∀l∈x.cf,l.length<=1000
def ams{v:o5}{x:bY}(hv:k7 h v x)(hf:x.fits):bo pv main S 275 #[v] s h λD h' z=>D=s/\h.ar h'/\z=.int .i64 x.ky:=by
 refine bL (args:=[v]) Tryz.func275 (by delta Tryz.f275;rfl) Tryz.ntmps275 Y O ?_;obtain⟨v1,v2,rfl,⟨a,af,H⟩,_⟩:=hv;obtain⟨p,o,c,rfl,hp⟩:=af.one;simp only[ah,seval,bO];intro c1 h1 az R;have j:=bU az R;have W:=bw R;simp only[ah,seval,W];have done:∀(q:Int) (e:Env) (h3:ae),h.ar h3->e 2=.int .i64 q->x.ky=q->dT pv Tryz.f275 (λD h' z=>D=s/\h.ar h'/\z=.int .i64 x.ky) 27 e [] s h3:=λq e h3 l3 t g=>
  bu Tryz.results275 Y ⟨rfl,l3,by rw[t,g]⟩
 have u:=H.1;refine ev oX (oY _ _ _ _ _) ?_;cases cQ:(decide ((1:Int)<=a.length)&&decide ((a.length:Int)<=3))with
 |false=>simp only[ah,seval];refine done 2 _ _ j atA ?_;unfold bY.ky;rw[if_neg];simp at cQ;omega
 |true=>
 have K:1<=a.length/\a.length<=3:=by simp at cQ;omega
 simp only[ah,seval,W];refine du (I:=λk e d L E=>∃i:Nat,k=a.length- i/\i<=a.length/\e 14=.slice p a.length c/\e 15=.int .i64 a.length/\e 16=.int .i64 i/\d=[]/\L=s/\h1.ar E/\∀l∈x.b2.take i,oZ l=0) (λk e d L E hI=> ?_) (m:=a.length) ⟨0,Y,U,atA,atA,atA,rfl,rfl,.cO _,Y⟩;obtain⟨i,rfl,bt,M,N,F,rfl,a8,n,r⟩:=hI;subst a8;simp only[ah,seval,N,F];rcases vy i a.length with hc|hc
 .obtain⟨mb,rfl,arr,q,f,w,hm,ba⟩:=hp.resolve_left U;have da:=ba i hc;have gm:=n _ _ (j _ _ hm);have P:i<x.b2.length:=U
  simp only[ah,seval,decide_eq_true (U:(i:Int)<a.length),M,F,gm,da];intro c3 h3 y G;have X:=bw G;have A:=dE.le (j.ay n) (H.2 i a[i] x.b2[i] Y Y);obtain⟨a1,o1,dH,aA,_⟩:=dE.AU A;rw[aA]at A;simp only[ah,seval,X,aA];intro h4 t;have g4:=bw t;have B:E.ar h4:=dM (bU y G) y t;clear G X y;have bd:x.b2[i]∈x.b2:=N0 P;have bh:x.b2.take (i+1)=x.b2.take i++[x.b2[i]]:=Y
  simp only[ah,seval,g4];refine cd al3 (amk (A.le B) (hf.1 _ bd)) λgA h5 z ⟨q1,Q,q3⟩=> ?_;subst q1;subst q3;by_cases g:oZ x.b2[i]=0
  .simp only[ah,seval,g,(atz:((0:Int) != 0)=q9),F];refine⟨_,?_,i+1,rfl,U,by simp[M],by simp[N],by simp[cq (x:=(i:Int)+1) U U],n.ay (B.ay Q),λl b=> ?_⟩
   .omega
   .rw[bh,D3]at b;rcases b with b|b
    .exact r l b
    .rw[auJ]at b;subst b;exact g
  .have ex:(oZ x.b2[i] != 0)=J:=by simpa using g
   simp only[ah,seval,ex];exact done (oZ x.b2[i]) _ _ (j.ay (n.ay (B.ay Q))) atA (by unfold bY.ky;rw[if_pos (u▸K),AR r P g])
 .simp only[ah,seval,decide_eq_false (U:¬(i:Int)<a.length)];have bm:i=a.length:=U
  rw[bm,u,N3]at r;exact done 0 _ _ (j.ay n) atA (by unfold bY.ky;rw[if_pos (u▸K),AQ.2 r])
def amt{v:o5}{x:bY}(W:k7 h v x)(X:x.fits):bo pv main S 276 #[v] s h λB h' z=>B=s/\h.ar h'/\z=.int .i64 x.kM:=by
 refine bL (args:=[v]) Tryz.func276 (by delta Tryz.f276;rfl) Tryz.ntmps276 Y O ?_;obtain⟨v1,v2,rfl,_,a,ab,G⟩:=W;obtain⟨p,o,c,rfl,hp⟩:=ab.one;simp only[ah,seval,bO];intro c1 h1 af P;have j:=bU af P;have Q:=bw P;simp only[ah,seval,Q];have done:∀(q:Int) (e:Env) (h3:ae),h.ar h3->e 2=.int .i64 q->x.kM=q->dT pv Tryz.f276 (λB h' z=>B=s/\h.ar h'/\z=.int .i64 x.kM) 26 e [] s h3:=λq e h3 l3 t g=>
  bu Tryz.results276 Y ⟨rfl,l3,by rw[t,g]⟩
 have ly:=G.1;by_cases bs:a.length<=4
 case neg=>simp only[ah,seval,decide_eq_true (U:(a.length:Int)>4)];exact done 2 _ _ j atA (by unfold bY.kM;rw[if_neg U])
 simp only[ah,seval,decide_eq_false (U:¬(a.length:Int)>4),Q];refine du (I:=λk e d H D=>∃i:Nat,k=a.length- i/\i<=a.length/\e 13=.slice p a.length c/\e 14=.int .i64 a.length/\e 15=.int .i64 i/\d=[]/\H=s/\h1.ar D/\∀l∈x.cf.take i,o7 l=0) (λk e d H D hI=> ?_) (m:=a.length) ⟨0,Y,U,atA,atA,atA,rfl,rfl,.cO _,Y⟩;obtain⟨i,rfl,bt,K,L,E,rfl,a7,n,r⟩:=hI;subst a7;simp only[ah,seval,L,E];rcases vy i a.length with hc|hc
 .obtain⟨mb,rfl,arr,q,f,w,hm,a8⟩:=hp.resolve_left U;have da:=a8 i hc;have gm:=n _ _ (j _ _ hm);have M:i<x.cf.length:=U
  simp only[ah,seval,decide_eq_true (U:(i:Int)<a.length),K,E,gm,da];intro c3 h3 u F;have R:=bw F;have A:=dE.le (j.ay n) (G.2 i a[i] x.cf[i] Y Y);obtain⟨a1,o1,dH,aA,_⟩:=dE.AV A;rw[aA]at A;simp only[ah,seval,R,aA];intro h4 t;have g4:=bw t;have y:D.ar h4:=dM (bU u F) u t;clear F R u;have bb:x.cf[i]∈x.cf:=N0 M;have bd:x.cf.take (i+1)=x.cf.take i++[x.cf[i]]:=Y
  simp only[ah,seval,g4];refine cd al5 (amo (A.le y) (X.2 _ bb)) λgA h5 z ⟨q1,N,q3⟩=> ?_;subst q1;subst q3;by_cases g:o7 x.cf[i]=0
  .simp only[ah,seval,g,(atz:((0:Int) != 0)=q9),E];refine⟨_,?_,i+1,rfl,U,by simp[K],by simp[L],by simp[cq (x:=(i:Int)+1) U U],n.ay (y.ay N),λl b=> ?_⟩
   .omega
   .rw[bd,D3]at b;rcases b with b|b
    .exact r l b
    .rw[auJ]at b;subst b;exact g
  .have ex:(o7 x.cf[i] != 0)=J:=by simpa using g
   simp only[ah,seval,ex];exact done (o7 x.cf[i]) _ _ (j.ay (n.ay (y.ay N))) atA (by unfold bY.kM;rw[if_pos U,AR r M g])
 .simp only[ah,seval,decide_eq_false (U:¬(i:Int)<a.length)];have bl:i=a.length:=U
  rw[bl,ly,N3]at r;exact done 0 _ _ (j.ay n) atA (by unfold bY.kM;rw[if_pos U,AQ.2 r])
def amu{v:o5}{x:bY}(i:k7 h v x):bo pv main S 277 #[v] s h λb h' z=>b=s/\h.ar h'/\z=.int .i64 x.nQ:=by
 refine bL (args:=[v]) Tryz.func277 (by delta Tryz.f277;rfl) Tryz.ntmps277 Y O ?_;obtain⟨n,o,rfl,_,_⟩:=i;simp only[ah,seval,bO];intro c1 h1 j d;have a:=bU j d;have f:=bw d;simp only[ah,seval,f];have done:∀(q:Int) (e:Env) (h3:ae),h.ar h3->e 2=.int .i64 q->x.nQ=q->dT pv Tryz.f277 (λb h' z=>b=s/\h.ar h'/\z=.int .i64 x.nQ) 15 e [] s h3:=λq e h3 k m l=>
  bu Tryz.results277 Y ⟨rfl,k,by rw[m,l]⟩
 refine ev oX (oY _ _ _ _ _) ?_;cases c:(decide ((0:Int)<=x.cW)&&decide (x.cW<=9999))with
 |false=>simp only[ah,seval];exact done 1 _ _ a atA (by unfold bY.nQ;rw[c,if_neg Y])
 |true=>
 simp only[ah,seval,f];refine ev oX (oY _ _ _ _ _) ?_;cases g:(decide ((0:Int)<=x.cS)&&decide (x.cS<=4))with
 |false=>simp only[ah,seval];exact done 1 _ _ a atA (by unfold bY.nQ;rw[g,if_neg Y])
 |true=>
 simp only[ah,seval];exact done 0 _ _ a atA (bY.Md.2 ⟨c,g⟩)
end
section
variable{main:Bool}{ai:Type}{S:Sys ai}{s:ai}{h:ae}
def amv{a b c:o5}[K:KK o5]:al pv (auG 145 (.agg #[a,b,c]) (.int .i64 0)) h=K.f a h:=O
def amw{a b c:o5}[K:KK o5]:al pv (auG 145 (.agg #[a,b,c]) (.int .i64 1)) h=K.f b h:=O
def amx{a b c:o5}[K:KK o5]:al pv (auG 145 (.agg #[a,b,c]) (.int .i64 2)) h=K.f c h:=O
def amy{a b:o5}[K:KK o5]:al pv (auG 147 (.agg #[a,b]) (.int .i64 0)) h=K.f a h:=O
def amz{a b:o5}[K:KK o5]:al pv (auG 147 (.agg #[a,b]) (.int .i64 1)) h=K.f b h:=O
def Mj{a b c d:o5}[K:KK o5]:al pv (atW 119 #[(0,.agg #[a,b,c,d])]) h=K.f (.agg #[a,b,c,d]) h:=O
def Ui{a b:o5}[K:KK o5]:al pv (atW 137 #[(0,.agg #[a,b])]) h=K.f (.agg #[a,b]) h:=O
structure tv(h:ae):Prop where
 b:∃q f w,h 0=C ⟨.cells #[dO 275 [],dO 276 [],dO 277 []] q f,w⟩
 g:∃q f w,h 1=C ⟨.cells #[dO 289 [],dO 250 []] q f,w⟩
def tv.le{h h':ae}(l:h.ar h')(t:tv h):tv h':=by obtain⟨⟨q,f,w,e⟩,a,b,w',c⟩:=t;exact⟨⟨q,f,w,l _ _ e⟩,a,b,w',l _ _ c⟩
def Uj{v:o5}{x:bY}(D:k7 h v x)(E:x.fits)(K:tv h):bo pv main S 32 #[v] s h λy h' z=>y=s/\h.ar h'/\z=.int .i64 x.dr:=by
 refine bL (args:=[v]) Tryz.func32 (by delta Tryz.f32;rfl) Tryz.ntmps32 Y O ?_;obtain⟨X,v2,aA,_,_⟩:=id D;obtain⟨q,f,w,A⟩:=K.b;simp only[ah,seval,bO,aA];intro c1 h1 L G;have l:=bU L G;have Q:=bw G;have A:=l _ _ A;simp only[ah,seval,A];have done:∀(q:Int) (e:Env) (h3:ae),h.ar h3->e 2=.int .i64 q->x.dr=q->dT pv Tryz.f32 (λy h' z=>y=s/\h.ar h'/\z=.int .i64 x.dr) 18 e [] s h3:=λq e h3 M R a=>
  bu Tryz.results32 Y ⟨rfl,M,by rw[R,a]⟩
 refine du (I:=λk e d F H=>∃i:Nat,k=3- i/\i<=3/\e 1=aV c1 0/\e 6=.agg #[dO 275 [],dO 276 [],dO 277 []]/\e 7=.int .i64 i/\d=[]/\F=s/\h1.ar H/\(1<=i->x.ky=0)/\(2<=i->x.kM=0)/\(3<=i->x.nQ=0)) (λk e d F H N=> ?_) (m:=3) ⟨0,Y,U,atA,atA,atA,rfl,rfl,.cO _,U,U,U⟩;obtain⟨i,rfl,W,n,o,j,rfl,P,c,a1,a2,a3⟩:=N;subst P;have B:=c _ _ Q;have u:=D.le (l.ay c);rw[aA]at u;obtain rfl|rfl|rfl|rfl:i=0\/i=1\/i=2\/i=3:=U
 .simp only[ah,seval,n,o,j,(atz:((0:Nat):Int)=0),amv,B,Mj,mK,amp,auI];refine(ams u E).mono λfe h3 z ⟨p,g,r⟩=> ?_;subst p;subst r;by_cases a:x.ky=0
  .simp only[ah,seval,a,(atz:((0:Int) != 0)=q9),j];refine⟨3- 1,U,1,rfl,U,by simp[n],by simp[o],by simp;rfl,c.ay g,λ_=>trivial,U,U⟩
  .have t:(x.ky != 0)=J:=by simpa using a
   simp only[ah,seval,t];exact done _ _ _ (l.ay (c.ay g)) atA (bY.Me rfl a)
 .simp only[ah,seval,n,o,j,(atz:((1:Nat):Int)=1),amw,B,Mj,mK,amq,auI];refine(amt u E).mono λfe h3 z ⟨p,g,r⟩=> ?_;subst p;subst r;by_cases a:x.kM=0
  .simp only[ah,seval,a,(atz:((0:Int) != 0)=q9),j];refine⟨3- 2,U,2,rfl,U,by simp[n],by simp[o],by simp;rfl,c.ay g,λ_=>a1 U,λ_=>trivial,U⟩
  .have t:(x.kM != 0)=J:=by simpa using a
   simp only[ah,seval,t];exact done _ _ _ (l.ay (c.ay g)) atA (bY.yK (a1 U) rfl a)
 .simp only[ah,seval,n,o,j,(atz:((2:Nat):Int)=2),amx,B,Mj,mK,amr,auI];refine(amu u).mono λfe h3 z ⟨p,g,r⟩=> ?_;subst p;subst r;by_cases a:x.nQ=0
  .simp only[ah,seval,a,(atz:((0:Int) != 0)=q9),j];refine⟨3- 3,U,3,rfl,U,by simp[n],by simp[o],by simp;rfl,c.ay g,λ_=>a1 U,λ_=>a2 U,λ_=>trivial⟩
  .have t:(x.nQ != 0)=J:=by simpa using a
   simp only[ah,seval,t];exact done _ _ _ (l.ay (c.ay g)) atA (bY.AS (a1 U) (a2 U) rfl)
 .simp only[ah,seval,j,(atz:((3:Nat):Int)=3)];exact done 0 _ _ (l.ay c) atA (bY.AS (a1 U) (a2 U) (a3 U))
end
def yN:List UInt8:=[97,98,99,100,101,102,103,104,105,106,107,108,109,110,111,112,113,114,115,116,117,118,119,120,121,122,48,49,50,51,52,53,54,55,56,57]
def AW:List UInt8:=[48,49,50,51,52,53,54,55,56,57]
def wG(cs:List UInt8)(i:Nat):Bool:=cs.any λc=>td c.toNat i
def Fa(cs:List UInt8):List o5->Nat->Bool
 | [],_=>J
 | .bool b::l,i=>(match b,wG cs i with|true,J=>J|false,q9=>J|_,_=>q9)&&Fa cs l (i+1)
 |_::_,_=>q9
def AX(cs:List UInt8):Option (o5×aE)->Bool
 |some (.tuple ⟨[.agg ⟨l⟩,.bool J]⟩,_)=>td l.length 256&&Fa cs l 0
 |_=>q9
def amA:AX yN (eP fp iU 60 188 [au yN] (gd []))=J:=O
def amB:AX AW (eP fp iU 60 188 [au AW] (gd []))=J:=O
def Uk{cs:List UInt8}:∀{l:List o5} {i:Nat},Fa cs l i=J->∀j,j<l.length->l[j]? =C (.bool (wG cs (i+j)))
 | [],i,_,j,a=>by simp at a
 |v::l,i,h,j,a=>by
  cases v<;>first|exact(W3 h).elim|skip
  rename_i b;simp only[Fa,vh]at h;cases j with
  |zero=>
   have:b=wG cs i:=by cases b<;>cases hb:wG cs i<;>rw[hb]at h<;>simp at h<;>rfl
   simp[this]
  |succ j=>have:=Uk h.2 j (by simpa using a);simp only[List.getElem?_cons_succ];rw[this,(U:i+1+j=i+(j+1))]
def uP(cs:List UInt8)(l:List o5):Prop:=l.length=256/\∀j,j<256->l[j]? =C (.bool (wG cs j))
def amC{cs:List UInt8}{w:UInt8}:wG cs w.toNat=cs.contains w:=by
 induction cs with
 |nil=>rfl
 |cons c cs a=>simp only[wG,List.any_cons,List.contains_cons]at a ⊢;rw[a];congr 1;rw[avL,Nat.beq_eq,beq_iff_eq];exact⟨λe=>(UInt8.toNat_inj.1 e).symm,λe=>by rw[e]⟩
section
variable{main:Bool}{ai:Type}{S:Sys ai}{s:ai}{h:ae}
def amD:bz pv 188=J:=O
def amE:bz pv 189=J:=O
def amF:bz pv 190=J:=O
def Ul:bz pv 210=J:=O
def Um:bz pv 163=J:=O
def Un{ρ:aX}:∀{l m:List o5},cT ρ l m->(∀v∈l,∃b,v=.bool b)->m=l
 | [],[],.nil,_=>rfl
 |v::l,w::m,.cons a b,h=>by obtain⟨x,rfl⟩:=h v Y;cases a;rw[Un b λv c=>h v (by simp[c])]
def amG{cs:List UInt8}(a:AX cs (eP fp iU 60 188 [au cs] (gd []))=J):bo pv main S 188 #[au cs] s h λe h' z=>e=s/\h.ar h'/\∃l,z=.tuple #[.agg ⟨l⟩,.bool J]/\uP cs l:=by
 generalize f:eP fp iU 60 188 [au cs] (gd [])=r at a;unfold AX at a;split at a
 .rename_i l H';simp only[vh,Nat.beq_eq]at a;obtain⟨_,q⟩:=uz (main:=main) (Sy:=S) (s:=s) (h:=h) (bs:=[]) (args':=[au cs]) f rfl (λi j b k k' h=>by simp at h) (λi x b k h=>by simp at h) (.cons (.string _) .nil);refine q.mono λe h' D ⟨y,A,bq,E,B,F⟩=>⟨y,A,?_⟩;have c:uP cs l:=⟨a.1,λj d=>by have:=Uk a.2 j U;rwa [Nat.zero_add]at this⟩;cases B with
  |tuple u=>
   cases u with
   |cons g m=>
    cases m with
    |cons n o=>
     cases o;cases n;cases g with
     |agg p=>
      have:=Un p λv t=>by obtain⟨j,d⟩:=avd.1 t;have w:=(F1.1 d).1;have:=c.2 j (by rw[<- c.1];exact w);rw[d]at this;exact⟨_,Option.some.inj this⟩
      subst this;exact⟨_,rfl,c⟩
 .cases a
end
def Fb(P:tb)(t:Nat):Bool:=match P.underlying t with
 |some (.array _ e)=>(cu P e).isSome
 |_=>q9
def AY(P:tb)(t:Nat):Nat:=match P.underlying t with|some (.array n _)=>n|_=>0
def AZ(P:tb)(t:Nat):Nat:=match P.underlying t with|some (.array _ e)=>(cu P e).getD 0|_=>0
def Uo{P:tb}{h:ae}{t c o:Nat}(d:Fb P t=J){k:E1}{x:Int}[K:KK o5]:al P (auX t (aV c o) (.int k x)) h=(0<=x/\x<AY P t/\K.f (aV c (o+x.toNat*AZ P t)) h):=by
 unfold Fb at d;split at d
 .rename_i n e g;obtain⟨aU,hs⟩:=Option.isSome_iff_exists.1 d;have i:AY P t=n:=by simp[AY,g]
  have j:AZ P t=aU:=by simp[AZ,g,hs]
  rw[i,j];simp only[al,auX,asIntOf,Instr.sureAddr,aJ,aR,c0,g,Gz,gD,hs,kU];by_cases hi:0<=x/\x<n
  .simp[hi]
  .simp only[hi,if_false,JF];refine propext ⟨λq=> ?_,λ⟨a,b,_⟩=>(hi ⟨a,b⟩).elim⟩;split at q<;>exact q.elim
 .cases d
def amH:Fb pv 304=J/\AY pv 304=256/\AZ pv 304=1:=⟨O,O,O⟩
def uQ{h:ae}{l:List UInt8}{k:E1}{b:Nat}(a:b<=l.length)[K:KK o5]:al pv (K0 9 (.string ⟨⟨l⟩⟩) o0 (C (.int k b)) o0) h=K.f (au (l.take b)) h:=ae8 rU a
def tx{h:ae}{l:List UInt8}{k:E1}{a:Nat}(b:a<=l.length)[K:KK o5]:al pv (K0 9 (.string ⟨⟨l⟩⟩) (C (.int k a)) o0 o0) h=K.f (au (l.drop a)) h:=Rk rU b
def yO{h:ae}{l:List UInt8}{k k':E1}{a b:Nat}(h1:a<=b)(c:b<=l.length)[K:KK o5]:al pv (K0 9 (.string ⟨⟨l⟩⟩) (C (.int k a)) (C (.int k' b)) o0) h=K.f (au ((l.drop a).take (b- a))) h:=ae7 rU h1 c
def Mk{h:ae}{l:List UInt8}{k:E1}(b:1<=l.length)[K:KK o5]:al pv (K0 9 (.string ⟨⟨l⟩⟩) (C (.int k 1)) o0 o0) h=K.f (au (l.drop 1)) h:=Rk (a:=1) rU b
section
variable{main:Bool}{ai:Type}{S:Sys ai}{s:ai}{h:ae}
def Up{c:Nat}{l:List o5}{cs:List UInt8}{w:UInt8}{o:Bool}{f:Nat×Nat}{q:Nat}(g:h c=C ⟨.cells ⟨l⟩ q f,o⟩)(hs:uP cs l):bo pv main S 210 #[aV c 0,.int .u8 w.toNat] s h λa h' z=>a=s/\h'=h/\z=.bool (cs.contains w):=by refine bL (args:=[aV c 0,.int .u8 w.toNat]) Tryz.func210 (by delta Tryz.f210;rfl) Tryz.ntmps210 Y O ?_;have e:=hs.2 w.toNat w.toNat_lt;rw[amC]at e;simp only[ah,seval,Uo,amH,g,e];have:=w.toNat_lt;refine⟨U,U,bu Tryz.results210 Y atA⟩
def Uq{n:Nat}(h0:0<n)(h1:n<=90000):IntKind.i64.wrap ((n:Int)- 1)=((n- 1:Nat):Int):=by rw[cq U U];omega
def amI{c:Nat}{L:List o5}{cs:List UInt8}{l:List UInt8}{o:Bool}{f:Nat×Nat}{q:Nat}(g:h c=C ⟨.cells ⟨L⟩ q f,o⟩)(hs:uP cs L)(B:l.length<=90000):bo pv main S 190 #[au l,aV c 0] s h λy h' z=>y=s/\h'=h/\∃i,i<=l.length/\z=au (l.take i)/\(∀w∈l.drop i,cs.contains w=J)/\(0<i->∃w∈l.take i,cs.contains w=q9):=by
 refine bL (args:=[au l,aV c 0]) Tryz.func190 (by delta Tryz.f190;rfl) Tryz.ntmps190 Y O ?_;simp only[ah,seval];refine du (I:=λk e d p a=>k<=l.length/\e 0=au (l.take k)/\e 1=aV c 0/\d=[]/\p=s/\a=h/\∀w∈l.drop k,cs.contains w=J) (λk e d p a u=> ?_) (m:=l.length) ⟨vr _,atA,atA,rfl,rfl,rfl,Y⟩;obtain⟨A,e0,r,rfl,rfl,rfl,j⟩:=u;have n:(l.take k).length=k:=atB
 simp only[ah,seval,e0,eH,n];rcases axf k with h0|h0
 .subst h0;simp only[ah,seval,e0];exact bu aB7 Y ⟨rfl,rfl,0,U,atA,j,U⟩
 .have a:(l.take k)[k- 1]? =C (l[k- 1]'U):=by rw[List.getElem?_take_of_lt U,List.getElem?_eq_getElem]
  simp only[ah,seval,decide_eq_true (U:((k:Int))>0),e0,r,eH,n,Uq h0 U,fq,a,fJ];refine⟨U,?_⟩;refine ev Ul (Up g hs) ?_;have hd:∀w∈l.drop (k- 1),w=l[k- 1]\/w∈l.drop k:=λw b=>by rw[List.drop_eq_getElem_cons U,(U:k- 1+1=k)]at b;simpa using b
  have t:l[k- 1]∈l.take k:=aAw.2 ⟨k- 1,U,rfl⟩;have v:(l.take k).take (k- 1)=l.take (k- 1):=by rw[List.take_take];congr 1;omega
  generalize l[k- 1]=x at a hd t ⊢;cases hc:cs.contains x with
  |false=>simp only[ah,seval,e0];exact bu aB7 Y ⟨rfl,rfl,k,A,atA,j,λ_=>⟨x,t,hc⟩⟩
  |true=>
   simp only[ah,seval,e0,eH,n,Uq h0 U,uQ,Nat.sub_le,v];refine⟨k- 1,U,U,Y,by simp[r],λw b=> ?_⟩;rcases hd w b with q|q
   .rw[q];exact hc
   .exact j w q
def amJ{c:Nat}{L:List o5}{cs:List UInt8}{l:List UInt8}{o:Bool}{f:Nat×Nat}{q:Nat}(g:h c=C ⟨.cells ⟨L⟩ q f,o⟩)(hs:uP cs L):bo pv main S 189 #[au l,aV c 0] s h λv h' z=>v=s/\h'=h/\∃m,z=au m/\(m=[]->∀w∈l,cs.contains w=J)/\(m≠[]->∃w∈l,cs.contains w=q9):=by
 refine bL (args:=[au l,aV c 0]) Tryz.func189 (by delta Tryz.f189;rfl) Tryz.ntmps189 Y O ?_;simp only[ah,seval];refine du (I:=λk e d j r=>∃m p,p++m=l/\k=m.length/\e 0=au m/\e 1=aV c 0/\d=[]/\j=s/\r=h/\∀w∈p,cs.contains w=J) (λk e d j r u=> ?_) (m:=l.length) ⟨l,[],rfl,rfl,atA,atA,rfl,rfl,rfl,Y⟩;obtain⟨m,p,b,y,e0,t,rfl,rfl,rfl,n⟩:=u;subst y;simp only[ah,seval,e0,eH];cases m with
 |nil=>simp only[ah,seval,e0];refine bu aB8 Y ⟨rfl,rfl,[],atA,λ_ w a=>n w (by rw[<- b]at a;simpa using a),λq=>(q rfl).elim⟩
 |cons x m=>
  have i:e 0=.string ⟨⟨x::m⟩⟩:=e0;simp only[ah,seval,decide_eq_true (U:((m.length+1:Nat):Int)>0),i,t,fq,fJ];refine ev Ul (Up g hs) ?_;cases hc:cs.contains x with
  |false=>simp only[ah,seval,i];exact bu aB8 Y ⟨rfl,rfl,x::m,atA,λq=>(by cases q),λ_=>⟨x,by rw[<- b];simp,hc⟩⟩
  |true=>
   simp only[ah,seval,i,Mk,(Y:(1<=m.length+1)=True),List.drop_succ_cons,List.drop_zero];refine⟨m.length,Y,m,p++[x],by simp[b],rfl,Y,by simp[t],λw a=> ?_⟩;rw[D3]at a;rcases a with q|q
   .exact n w q
   .rw[auJ]at q;rw[q];exact hc
end
def Ur:∀(l p:List o5) (arr:Array o5),arr.toList.length=p.length+l.length->arr.toList.take p.length=p->(l.foldl (λa v=>(a.1+1,a.2.setIfInBounds a.1 v)) (p.length,arr)).2=⟨p++l⟩
 | [],p,arr,h1,b=>by apply Array.toList_inj.1;simp only[List.foldl_nil,auI];rw[<- b];exact(aw4 (by rw[h1];simp)).symm
 |v::l,p,arr,h1,b=>by
  rw[List.foldl_cons];have:=Ur l (p++[v]) (arr.setIfInBounds p.length v) (by simp at h1 ⊢;omega) (by
   have c:p.length<arr.toList.length:=by rw[h1];simp
   rw[Array.toList_setIfInBounds,M3,azc,atC];rw[List.take_set_of_le (vr _),b,List.getElem?_set_self c];rfl)
  rw[M3,azc]at this;rw[this];simp
def amK:(qR pv 304).toList.length=256:=O
def amL:uL pv 304=J:=O
def Us:mh pv 304=256/\(cu pv 304).isSome=J:=⟨O,O⟩
def uP.one{cs:List UInt8}{l:List o5}(h:uP cs l):l.all jG=J:=by rw[G0];intro v b;obtain⟨j,a⟩:=avd.1 b;have c:=(F1.1 a).1;have:=h.2 j (by rw[<- h.1];exact c);rw[a]at this;rw[Option.some.inj this];rfl
def amM{h:ae}{c:Nat}{arr:Array o5}{q:Nat}{cs:List UInt8}{l:List o5}(g:h c=C ⟨.cells arr q (0,0),J⟩)(b:arr.toList.length=256)(hs:uP cs l)[K:KK Unit]:al pv (Instr.storeAt 304 (aV c 0) (.agg ⟨l⟩)) h=∀h1,h1=h.put c ⟨.cells ⟨l⟩ q (0,0),J⟩->K.f () h1:=by
 have e:=Ur l [] arr (by simp[b,hs.1]) Y;simp only[List.length_nil,List.nil_append]at e;rw[TI (by simp only[EV,Us,L0,hs.1,hs.one];rfl) (by rw[g,TH,Us.1];simp at b;simp[b])];rw[g,LZ,L0];show(∀h1,h1=h.put c ⟨.cells (l.foldl (λa v=>(a.1+1,a.2.setIfInBounds a.1 v)) (0,arr)).2 q (0,0),J⟩->K.f () h1)=_;rw[e]
section
variable{main:Bool}{ai:Type}{S:Sys ai}{s:ai}{h:ae}
def Ut{l cs:List UInt8}(F:AX cs (eP fp iU 60 188 [au cs] (gd []))=J)(p:2<=cs.length)(r:l.length<=90000):bo pv main S 163 #[au l,au cs] s h λG h' z=>G=s/\h.ar h'/\∃m,z=au m/\((m==[])=l.all λw=>cs.contains w):=by
 refine bL (args:=[au l,au cs]) Tryz.func163 (by delta Tryz.f163;rfl) Tryz.ntmps163 Y O ?_;simp only[ah,seval,gg];cases l with
 |nil=>simp only[ah,seval];exact bu aCb Y ⟨rfl,.cO _,[],atA,rfl⟩
 |cons x l=>
 have H:(cs==[])=q9:=by cases cs with|nil=>simp at p|cons a b=>rfl
 have I:((cs.length:Int)==1)=q9:=atB
 simp only[ah,seval,(atz:(x::l==[])=q9),H,eH,I,gg];refine cd amD (amG F) λX M z ⟨t,u,L,v,g⟩=> ?_;subst t;subst v;simp only[ah,seval,dg,amL];intro c h3 j k;have N:=bw k;rw[amM (K:=⟨_⟩) N amK g];intro h4 n;have o:=bw n;have y:M.ar h4:=dM (bU j k) j n;simp only[ah,seval];refine cd amF (amI o g r) λgA h5 z ⟨P,Q,i,hi,R,A,B⟩=> ?_;subst P;subst Q;subst R;simp only[ah,seval];refine cd amE (amJ o g) λW h6 z ⟨bZ,cU,m,jA,fK,ie⟩=> ?_;subst bZ;subst cU;subst jA;simp only[ah,seval];refine bu aCb Y ⟨rfl,u.ay y,m,atA,?_⟩;rw[avL,beq_iff_eq,(atz:(cs.contains x&&l.all λw=>cs.contains w)=(x::l).all (λw=>cs.contains w)),G0];constructor
 .intro e w f;have D:i=0:=by
   rcases axf i with q|q
   .exact q
   .obtain⟨w,f,d⟩:=B q;rw[fK e w f]at d;cases d
  subst D;exact A w (by simpa using f)
 .intro E;cases m with
  |nil=>rfl
  |cons a b=>obtain⟨w,f,d⟩:=ie Y;rw[E w (List.mem_of_mem_take f)]at d;cases d
def Uu:bz pv 290=J:=O
def Ml{i:Int}{b:aS}{h0:ae}[K:hA ai]:iw pv main S b 5 3 (.int .u8 i) s h0=K.f s h0 (.int .i64 (IntKind.i64.wrap i)):=by show @al pv _ (convert 5 3 (.int .u8 i)) h0 ⟨λv h=>K.f s h v⟩=_;simp only[al,convert,aJ,c0,Tryz.underlying5,Tryz.underlying3,Conv.intToInt,aR]
def amN(w:UInt8):yN.contains w=(oA w||jz w):=by
 have:∀n:Fin 256,yN.contains (UInt8.ofNat n.1)=(oA (UInt8.ofNat n.1)||jz (UInt8.ofNat n.1)):=by decide +kernel
 have q:=this ⟨w.toNat,w.toNat_lt⟩;simpa using q
def Uv(l:List UInt8)(d:l.length<=90000):bo pv main S 290 #[au l] s h λe h' z=>e=s/\h.ar h'/\z=.bool (gR l):=by
 refine bL (args:=[au l]) Tryz.func290 (by delta Tryz.f290;rfl) Tryz.ntmps290 Y O ?_;simp only[ah,seval,eH];refine ev oX (oY _ _ _ _ _) ?_;cases a:(decide ((1:Int)<=l.length)&&decide ((l.length:Int)<=12))with
 |false=>simp only[ah,seval];exact bu aAA Y ⟨rfl,.cO _,by simp[ak,gR,a]⟩
 |true=>
 cases l with
 |nil=>simp at a
 |cons w l=>
 simp only[ah,seval,fq,fJ,Ml,cq (x:=(w.toNat:Int)) U (by have:=w.toNat_lt;omega)];refine ev oX (oY _ _ _ _ _) ?_;cases b:(decide ((97:Int)<=w.toNat)&&decide ((w.toNat:Int)<=122))with
 |false=>simp only[ah,seval];exact bu aAA Y ⟨rfl,.cO _,by simp only[ak,gR,a,oA,b];simp⟩
 |true=>
 simp only[ah,seval];refine cd Um (Ut (cs:=yN) amA aty d) λgA j z ⟨f,g,m,i,c⟩=> ?_;subst f;subst i;simp only[ah,seval,gg];refine bu aAA Y ⟨rfl,g,?_⟩;have:∀l:List UInt8,(l.all λw=>yN.contains w)=l.all λw=>oA w||jz w:=λl=>by congr 1;funext w;exact amN w
 rw[this]at c;simp only[ak,gR,a,oA,b,c];simp
end
section
variable{α:Type}{cr:α->List UInt8}{ov:α->o5}{h:ae}
def amO{a b:List UInt8}:axs .string (au a) (au b)=C (a==b):=by
 have:((⟨⟨a⟩⟩:ByteArray)==⟨⟨b⟩⟩)=(a==b):=by show((⟨a⟩:Array UInt8)==⟨b⟩)=(a==b);simp
 simp only[axs,this]
def Mm{k:List UInt8}:∀{es:List HP} {l:List α} {i:Nat},es.map (λe=>(e.key,e.val))=l.map (λs=>(au (cr s),ov s))->(∃s∈l,cr s=k/\∃j,avN .string (au k) es i=C (C (j,ov s)))\/((∀s∈l,cr s≠k)/\avN .string (au k) es i=C o0)
 | [],[],i,_=>.inr ⟨Y,rfl⟩
 | [],_::_,i,d=>by simp at d
 |_::_,[],i,d=>by simp at d
 |e::es,s::l,i,d=>by
  simp only[List.map_cons,List.cons.injEq,Prod.mk.injEq]at d;obtain⟨⟨h1,h⟩,m⟩:=d;have g:axs .string (au k) e.key=C (k==cr s):=by rw[h1];exact amO
  by_cases f:k=cr s
  .refine .inl ⟨s,Y,f.symm,i,?_⟩;have:(k==cr s)=J:=by simpa using f
   simp only[avN,g,this,h]
  .have:(k==cr s)=q9:=by simpa using f
   rcases Mm (k:=k) (i:=i+1) m with⟨n,a,b,j,c⟩|⟨a,b⟩
   .refine .inl ⟨n,by simp[a],b,j,?_⟩;simp only[avN,g,this];exact c
   .refine .inr ⟨λx o=> ?_,?_⟩
    .rcases List.mem_cons.1 o with q|q
     .rw[q];exactλe=>f e.symm
     .exact a x q
    .simp only[avN,g,this];exact b
def Uw{P:tb}{t d c ck:Nat}{z:o5}{es:Array HP}{o:Bool}{l:List α}{k:List UInt8}{ok:Bool}(f:P.underlying 9=C .string)(m:P.underlying t=C (.map 9 d))(n:fw P d=C z)(g:h c=C ⟨.map es ck,o⟩)(p:es.toList.map (λe=>(e.key,e.val))=l.map (λs=>(au (cr s),ov s))){K:o5->ae->Prop}
  (yes:∀s∈l,cr s=k->K (if ok then .tuple #[ov s,.bool J]else ov s) h) (no:(∀s∈l,cr s≠k)->K (if ok then .tuple #[z,.bool q9]else z) h):@al P _ (awr t (.map (C c)) (au k) ok) h ⟨K⟩:=by
 simp only[al,awr,aJ,c0,m];rw[Cu g rfl rfl];simp only[aJ,aR];rw[Cv (str:=J) (by simp[oT,f])];simp only[ayQ,aJ,c0,f];rcases Mm (k:=k) (i:=0) p with⟨s,hs,a,j,b⟩|⟨a,b⟩
 .rw[b];have:=yes s hs a;cases ok<;>exact this
 .rw[b];simp only[aJ,kH,n,aR];have:=no a;cases ok<;>exact this
def Ux{P:tb}{t m c ck:Nat}{es:Array HP}{l:List α}{k:List UInt8}{v:o5}(d:P.underlying 9=C .string)(f:P.underlying t=C (.map 9 m))(g:h c=C ⟨.map es ck,J⟩)(n:es.toList.map (λe=>(e.key,e.val))=l.map (λs=>(au (cr s),ov s)))(no:∀s∈l,cr s≠k){K:Unit->ae->Prop}
  (kk:∀h1,h1=h.put c ⟨.map (es.push {key:=au k,val:=v,born:=ck}) (ck+1),J⟩->K () h1):@al P _ (axm t (.map (C c)) (au k) v) h ⟨K⟩:=by
 simp only[al,axm,aJ,c0,f];rw[Cu g rfl rfl];simp only[aJ];rw[Cv (str:=J) (by simp[oT,d])];simp only[ayQ,aJ,c0,d];rcases Mm (k:=k) (i:=0) n with⟨s,hs,a,j,b⟩|⟨a,b⟩
 .exact(no s hs a).elim
 .rw[b];simp only[aR];rw[Hj g rfl rfl];exact kk _ rfl
def Uy{P:tb}{t:Nat}[K:KK o5]:al P (axk t o0) h=∀c h1,h c=o0->h1=h.put c ⟨.map #[] 0,J⟩->K.f (.map (C c)) h1:=by simp only[al,axk,aJ,qo,aR];exact propext ⟨λk c h1 hc e=>by subst e;exact k c hc,λk c hc=>k c _ hc rfl⟩
def Uz:pv.underlying 376=C (.map 9 51):=O
def UA:pv.underlying 375=C (.map 9 4):=O
def Mn:fw pv 51=C (.agg #[.string .empty,.int .i64 0,.int .i64 0,.int .i64 0]):=O
def JR:fw pv 4=C (.bool q9):=O
end
section
variable{main:Bool}{ai:Type}{S:Sys ai}{s:ai}{h:ae}
def amP:bz pv 289=J:=O
def amQ{c ck:Nat}{es:Array HP}{o:Bool}{l:List fU}{k:List UInt8}(g:h c=C ⟨.map es ck,o⟩)(d:es.toList.map (λe=>(e.key,e.val))=l.map (λs=>(au s.name,s.v))){K:o5->ae->Prop}
  (kk:∀(w:fU) (ok:Bool),(ok=J↔∃y∈l,y.name=k)->K (.tuple #[w.v,.bool ok]) h):@al pv _ (awr 376 (.map (C c)) (.string ⟨⟨k⟩⟩) J) h ⟨K⟩:=
 Uw (ok:=J) rU Uz Mn g d (λs hs a=>kk s J ⟨λ_=>⟨s,hs,a⟩,λ_=>rfl⟩) (λa=>kk ⟨[],0,0,0⟩ q9 ⟨λq=>(by cases q),λ⟨y,b,e⟩=>(a y b e).elim⟩)
def amR{v:o5}{x:Ground}(hv:kL h v x)(b5:∀s∈x.db,s.name.length<=90000):bo pv main S 289 #[v] s h λN h' z=>N=s/\h.ar h'/\z=.int .i64 x.jj:=by
 refine bL (args:=[v]) Tryz.func289 (by delta Tryz.f289;rfl) Tryz.ntmps289 Y O ?_;obtain⟨v1,v2,rfl,b6,en⟩:=hv;obtain⟨p,o,c,rfl,hp⟩:=b6.four;generalize F:x.db=g at*
 simp only[ah,seval];intro c1 h1 b9 e1;have l:=bU b9 e1;have g1:=bw e1;simp only[ah,seval,g1];have done:∀(q:Int) (e:Env) (h3:ae),h.ar h3->e 2=.int .i64 q->x.jj=q->dT pv Tryz.f289 (λN h' z=>N=s/\h.ar h'/\z=.int .i64 x.jj) 54 e [] s h3:=λq e h3 l3 e4 hq=>
  bu Tryz.results289 Y ⟨rfl,l3,by rw[e4,hq]⟩
 by_cases n4:g.length>4
 .simp only[ah,seval,decide_eq_true (U:(g.length:Int)>4)];exact done 2 _ _ l atA (TZ F n4)
 simp only[ah,seval,decide_eq_false (U:¬(g.length:Int)>4),Uy];intro cm h2 W e2;have X:=bU W e2;have cc:=bw e2;have g2:=X _ _ g1;simp only[ah,seval,g2];refine du (I:=λk e d sx B=>∃(i:Nat) (es:Array HP) (P:Nat),k=g.length- i/\i<=g.length/\e 3=.map (C cm)/\e 16=.slice p g.length c/\e 17=.int .i64 g.length/\e 18=.int .i64 i/\d=[]/\sx=s/\h1.ar B/\B cm=C ⟨.map es P,J⟩/\es.toList.map (λe=>(e.key,e.val))=(g.take i).map (λs=>(au s.name,s.v))/\mI (g.take i)) (λk e d sx B hI=> ?_) (m:=g.length) ⟨0,#[],0,Y,U,atA,atA,atA,atA,rfl,rfl,X,cc,Y,by simp[mI]⟩;obtain⟨i,es,P,rfl,eo,Q,ad,af,G,rfl,cp,n,gm,H,D⟩:=hI;subst cp;simp only[ah,seval,af,G];rcases vy i g.length with hc|hc
 .obtain⟨mb,rfl,arr,q,f,w,hm,c6⟩:=hp.resolve_left U;obtain⟨a0,a1,a2,a3⟩:=c6 i hc;simp only[bO]at a1 a2 a3;have dd:=n _ _ (l _ _ hm);simp only[ah,seval,decide_eq_true (U:(i:Int)<g.length),ad,G,dd,a0,a1,a2,a3];intro c3 h3 ag az;have g3:=bw az;simp only[ah,seval,g3];intro h4 a6;have R:=bw a6;have a7:B.ar h4:=dM (bU ag az) ag a6;have a8:=a7 _ _ gm;have K:g.take (i+1)=g.take i++[g[i]]:=Y
  have u:∀f,oF (g.take i) g[i]=f->f≠0->x.jj=f:=λf a b=>T9 F n4 D hc a b;have ba:=b5 _ (N0 hc);generalize g[i]=j at R K u ba ⊢;simp only[ah,seval,R,Q];refine amQ a8 H λw ok bb=> ?_;simp only[ah,seval,dg,fU.v,bO];intro c5 h5 bd bh;have g5:=bw bh;simp only[ah,seval,g5];intro h6 de;have L:h4.ar h6:=dM (bU bd bh) bd de;have g6:=L _ _ R;have ds:=L _ _ a8;simp only[ah,seval,g6];refine cd Uu (Uv j.name ba) λs7 h7 z ⟨r1,M,r3⟩=> ?_;subst r1;subst r3;have r:B.ar h7:=a7.ay (L.ay M);have E:=M _ _ g6;have dt:=M _ _ ds;cases t:gR j.name with
  |false=>simp only[ah,seval];exact done 4 _ _ (l.ay (n.ay r)) atA (u _ (TS t) aty)
  |true=>
  simp only[ah,seval];cases ok with
  |true=>simp only[ah,seval];exact done 5 _ _ (l.ay (n.ay r)) atA (u _ (TT t (bb.1 rfl)) aty)
  |false=>
  have A:∀y∈g.take i,y.name≠j.name:=λy hy e=>W3 (bb.2 ⟨y,hy,e⟩);simp only[ah,seval,E];refine ev oX (oY _ _ _ _ _) ?_;cases q2:(decide ((1:Int)<=j.cX)&&decide (j.cX<=90))with
  |false=>simp only[ah,seval];exact done 1 _ _ (l.ay (n.ay r)) atA (u _ (yL t A (by simp only[eJ,q2,auH])) aty)
  |true=>
  simp only[ah,seval,E];refine ev oX (oY _ _ _ _ _) ?_;cases q3:(decide ((1:Int)<=j.size)&&decide (j.size<=150))with
  |false=>simp only[ah,seval];exact done 1 _ _ (l.ay (n.ay r)) atA (u _ (yL t A (by simp only[eJ,q3,auH,auV])) aty)
  |true=>
  simp only[ah,seval,E];refine ev oX (oY _ _ _ _ _) ?_;cases q4:(decide ((0:Int)<=j.gS)&&decide (j.gS<=4))with
  |false=>simp only[ah,seval];exact done 1 _ _ (l.ay (n.ay r)) atA (u _ (yL t A (by simp only[eJ,q4,auV])) aty)
  |true=>
  simp only[ah,seval,E,Q];refine Ux rU Uz dt H A λh8 e8=> ?_;have dA:h1.ar h8:=dM (n.ay r) W e8;simp only[ah,seval,G];refine⟨_,?_,i+1,_,P+1,rfl,U,by simp[Q],by simp[ad],by simp[af],by simp[cq (x:=(i:Int)+1) U U],dA,bw e8,?_,?_⟩
  .omega
  .rw[K,Array.toList_push,auu,auu,H];rfl
  .rw[K,EZ];exact⟨D,by simp only[pQ,eJ,t,q2,q3,q4,awj],A⟩
 .simp only[ah,seval,decide_eq_false (U:¬(i:Int)<g.length)];have dS:i=g.length:=U
  rw[dS,N3]at D;exact done 0 _ _ (l.ay n) atA (Ground.Mh.2 (by rw[F];exact⟨U,D⟩))
end
section
variable{main:Bool}{ai:Type}{S:Sys ai}{s:ai}{h:ae}
def amS:bz pv 250=J:=O
def amT{c ck:Nat}{es:Array HP}{o:Bool}{l:List fV}{k:List UInt8}(g:h c=C ⟨.map es ck,o⟩)(d:es.toList.map (λe=>(e.key,e.val))=l.map (λs=>(au s.name,.bool J))){K:o5->ae->Prop}
  (kk:∀(ok:Bool),(ok=J↔∃y∈l,y.name=k)->K (.bool ok) h):@al pv _ (awr 375 (.map (C c)) (.string ⟨⟨k⟩⟩) q9) h ⟨K⟩:=
 Uw (ok:=q9) rU UA JR g d (λs hs a=>kk J ⟨λ_=>⟨s,hs,a⟩,λ_=>rfl⟩) (λa=>kk q9 ⟨λq=>(by cases q),λ⟨y,b,e⟩=>(a y b e).elim⟩)
def amU{v:o5}{x:Ground}(hv:kL h v x)(b0:∀s∈x.c7,s.name.length<=90000):bo pv main S 250 #[v] s h λQ h' z=>Q=s/\h.ar h'/\z=.int .i64 x.nd:=by
 refine bL (args:=[v]) Tryz.func250 (by delta Tryz.f250;rfl) Tryz.ntmps250 Y O ?_;obtain⟨v1,v2,rfl,eg,b3⟩:=hv;obtain⟨p,o,c,rfl,hp⟩:=b3.four;generalize F:x.c7=g at*
 simp only[ah,seval];intro c1 h1 b5 e1;have l:=bU b5 e1;have g1:=bw e1;simp only[ah,seval,g1];have done:∀(q:Int) (e:Env) (h3:ae),h.ar h3->e 2=.int .i64 q->x.nd=q->dT pv Tryz.f250 (λQ h' z=>Q=s/\h.ar h'/\z=.int .i64 x.nd) 53 e [] s h3:=λq e h3 l3 e4 hq=>
  bu Tryz.results250 Y ⟨rfl,l3,by rw[e4,hq]⟩
 by_cases n4:g.length>6
 .simp only[ah,seval,decide_eq_true (U:(g.length:Int)>6)];exact done 2 _ _ l atA (T8 F n4)
 simp only[ah,seval,decide_eq_false (U:¬(g.length:Int)>6),Uy];intro cm h2 ab e2;have ad:=bU ab e2;have b9:=bw e2;have g2:=ad _ _ g1;simp only[ah,seval,g2];refine du (I:=λk e d sx D=>∃(i:Nat) (es:Array HP) (R:Nat),k=g.length- i/\i<=g.length/\e 3=.map (C cm)/\e 14=.slice p g.length c/\e 15=.int .i64 g.length/\e 16=.int .i64 i/\d=[]/\sx=s/\h1.ar D/\D cm=C ⟨.map es R,J⟩/\es.toList.map (λe=>(e.key,e.val))=(g.take i).map (λs=>(au s.name,Value.bool J))/\mJ (g.take i)) (λk e d sx D hI=> ?_) (m:=g.length) ⟨0,#[],0,Y,U,atA,atA,atA,atA,rfl,rfl,ad,b9,Y,by simp[mJ]⟩;obtain⟨i,es,R,rfl,eh,W,ag,az,G,rfl,cb,n,gm,H,E⟩:=hI;subst cb;simp only[ah,seval,az,G];rcases vy i g.length with hc|hc
 .obtain⟨mb,rfl,arr,q,f,w,hm,cl⟩:=hp.resolve_left U;obtain⟨a0,a1,a2,a3⟩:=cl i hc;simp only[bO]at a1 a2 a3;have cp:=n _ _ (l _ _ hm);simp only[ah,seval,decide_eq_true (U:(i:Int)<g.length),ag,G,cp,a0,a1,a2,a3];intro c3 h3 a6 a7;have g3:=bw a7;simp only[ah,seval,g3];intro h4 a8;have X:=bw a8;have ba:D.ar h4:=dM (bU a6 a7) a6 a8;have cM:=ba _ _ gm;have K:g.take (i+1)=g.take i++[g[i]]:=Y
  have u:∀f,nc (g.take i) g[i]=f->f≠0->x.nd=f:=λf a b=>Ua F n4 E hc a b;have bb:=b0 _ (N0 hc);generalize g[i]=j at X K u bb ⊢;simp only[ah,seval,X];have c6:=ae.ar.cO h4;have g6:=X;have dd:=cM;refine cd Uu (Uv j.name bb) λs7 h7 z ⟨r1,L,r3⟩=> ?_;subst r1;subst r3;have r:D.ar h7:=ba.ay (c6.ay L);have B:=L _ _ g6;have bd:=L _ _ dd;cases t:gR j.name with
  |false=>simp only[ah,seval];exact done 4 _ _ (l.ay (n.ay r)) atA (u _ (TU t) aty)
  |true=>
  simp only[ah,seval,B,W];refine amT bd H λok bh=> ?_;simp only[ah,seval];cases ok with
  |true=>simp only[ah,seval];exact done 5 _ _ (l.ay (n.ay r)) atA (u _ (TV t (bh.1 rfl)) aty)
  |false=>
  have A:∀y∈g.take i,y.name≠j.name:=λy hy e=>W3 (bh.2 ⟨y,hy,e⟩);simp only[ah,seval,B];refine ev oX (oY _ _ _ _ _) ?_;cases M:(decide ((1:Int)<=j.size)&&decide (j.size<=150))with
  |false=>simp only[ah,seval];exact done 1 _ _ (l.ay (n.ay r)) atA (u _ (yM t A (by simp only[eJ,M,auH])) aty)
  |true=>
  simp only[ah,seval,B];refine ev oX (oY _ _ _ _ _) ?_;cases N:(decide ((1:Int)<=j.ff)&&decide (j.ff<=90))with
  |false=>simp only[ah,seval];exact done 1 _ _ (l.ay (n.ay r)) atA (u _ (yM t A (by simp only[eJ,N,auH,auV])) aty)
  |true=>
  simp only[ah,seval,B];refine ev oX (oY _ _ _ _ _) ?_;cases P:(decide ((1:Int)<=j.cX)&&decide (j.cX<=90))with
  |false=>simp only[ah,seval];exact done 1 _ _ (l.ay (n.ay r)) atA (u _ (yM t A (by simp only[eJ,P,auV])) aty)
  |true=>
  simp only[ah,seval,B];by_cases q5:j.ff>j.cX
  .simp only[ah,seval,decide_eq_true q5];exact done 7 _ _ (l.ay (n.ay r)) atA (u _ (TW t A (by simp only[eJ,M,N,P,awj]) U) aty)
  simp only[ah,seval,decide_eq_false q5,B,W];refine Ux rU UA bd H A λh8 e8=> ?_;have ds:h1.ar h8:=dM (n.ay r) ab e8;simp only[ah,seval,G];refine⟨_,?_,i+1,_,R+1,rfl,U,by simp[W],by simp[ag],by simp[az],by simp[cq (x:=(i:Int)+1) U U],ds,bw e8,?_,?_⟩
  .omega
  .rw[K,Array.toList_push,auu,auu,H];rfl
  .rw[K,E0];exact⟨E,by simp only[pR,eJ,t,M,N,P,decide_eq_true (U:j.ff<=j.cX),awj],A⟩
 .simp only[ah,seval,decide_eq_false (U:¬(i:Int)<g.length)];have dt:i=g.length:=U
  rw[dt,N3]at E;exact done 0 _ _ (l.ay n) atA (Ground.Mi.2 (by rw[F];exact⟨U,E⟩))
end
section
variable{main:Bool}{ai:Type}{S:Sys ai}{s:ai}{h:ae}
def UB:bz pv 33=J:=O
def Ground.fits(x:Ground):Prop:=(∀s∈x.db,s.name.length<=90000)/\∀s∈x.c7,s.name.length<=90000
def UC{v:o5}{x:Ground}(B:kL h v x)(D:x.fits)(K:tv h):bo pv main S 33 #[v] s h λu h' z=>u=s/\h.ar h'/\z=.int .i64 x.dr:=by
 refine bL (args:=[v]) Tryz.func33 (by delta Tryz.f33;rfl) Tryz.ntmps33 Y O ?_;obtain⟨X,v2,aA,_,_⟩:=id B;obtain⟨q,f,w,y⟩:=K.g;simp only[ah,seval,aA];intro c1 h1 L F;have c:=bU L F;have Q:=bw F;have y:=c _ _ y;simp only[ah,seval,y];have done:∀(q:Int) (e:Env) (h3:ae),h.ar h3->e 2=.int .i64 q->x.dr=q->dT pv Tryz.f33 (λu h' z=>u=s/\h.ar h'/\z=.int .i64 x.dr) 18 e [] s h3:=λq e h3 M R a=>
  bu Tryz.results33 Y ⟨rfl,M,by rw[R,a]⟩
 refine du (I:=λk e d E G=>∃i:Nat,k=2- i/\i<=2/\e 1=aV c1 0/\e 6=.agg #[dO 289 [],dO 250 []]/\e 7=.int .i64 i/\d=[]/\E=s/\h1.ar G/\(1<=i->x.jj=0)/\(2<=i->x.nd=0)) (λk e d E G N=> ?_) (m:=2) ⟨0,Y,U,atA,atA,atA,rfl,rfl,.cO _,U,U⟩;obtain⟨i,rfl,W,n,o,l,rfl,P,b,a1,a2⟩:=N;subst P;have H:=b _ _ Q;have p:=B.le (c.ay b);rw[aA]at p;obtain rfl|rfl|rfl:i=0\/i=1\/i=2:=U
 .simp only[ah,seval,n,o,l,(atz:((0:Nat):Int)=0),amy,H,Ui,mK,amP,auI];refine(amR p D.1).mono λfe h3 z ⟨r,j,t⟩=> ?_;subst r;subst t;by_cases a:x.jj=0
  .simp only[ah,seval,a,(atz:((0:Int) != 0)=q9),l];refine⟨2- 1,U,1,rfl,U,by simp[n],by simp[o],by simp;rfl,b.ay j,λ_=>trivial,U⟩
  .have A:(x.jj != 0)=J:=by simpa using a
   simp only[ah,seval,A];exact done _ _ _ (c.ay (b.ay j)) atA (Ground.yK rfl a)
 .simp only[ah,seval,n,o,l,(atz:((1:Nat):Int)=1),amz,H,Ui,mK,amS,auI];refine(amU p D.2).mono λfe h3 z ⟨r,j,t⟩=> ?_;subst r;subst t;by_cases a:x.nd=0
  .simp only[ah,seval,a,(atz:((0:Int) != 0)=q9),l];refine⟨2- 2,U,2,rfl,U,by simp[n],by simp[o],by simp;rfl,b.ay j,λ_=>a1 U,λ_=>trivial⟩
  .have A:(x.nd != 0)=J:=by simpa using a
   simp only[ah,seval,A];exact done _ _ _ (c.ay (b.ay j)) atA (Ground.AT (a1 U) rfl)
 .simp only[ah,seval,l,(atz:((2:Nat):Int)=2)];exact done 0 _ _ (c.ay b) atA (Ground.AT (a1 U) (a2 U))
end
def pT{k:E1}{n:Nat}(b:n<4294967296)(a:k=.u64\/k=.u32\/k=.i64):k.wrap (n:Int)=n:=by rcases a with rfl|rfl|rfl<;>simp only[IntKind.wrap,IntKind.bits,IntKind.signed]<;>simp<;>omega
def Mo(k:E1):Bool:=match k with|.u64=>J|.u32=>J|.i64=>J|_=>q9
def amV{k:E1}(h:Mo k=J):k=.u64\/k=.u32\/k=.i64:=by cases k<;>simp[Mo]at h ⊢
section
variable{P:tb}{h:ae}{xt:TypeId}{x y:Operand}{k k':E1}[K:KK o5]
def A5{a b:Nat}(hb:(b==0)=q9)(g:Mo k=J)(c:a<4294967296):al P (bN .quo xt x y (.int k a) (.int k b)) h=K.f (.int k ((a/b:Nat):Int)) h:=by
 have d:¬((b:Int)=0):=by simp at hb;omega
 have e:k.wrap ((a:Int).tdiv b)=((a/b:Nat):Int):=by rw[show(a:Int).tdiv b=((a/b:Nat):Int)by rw[Int.tdiv_eq_ediv_of_nonneg U];rfl];exact pT (Nat.lt_of_le_of_lt (Nat.div_le_self _ _) c) (amV g)
 have q:(do W2 .quo xt x y (.int k a) (.int k b);binOp .quo xt (.int k a) (.int k b):Sem o5)=pure (.int k ((a/b:Nat):Int)):=by show(if k≠k then stuck "BinOp: operands of different kinds" else Op.intDiv .quo k a b)=_;simp only[ne_eq,not_true_eq_false,if_false,Op.intDiv,d,e]
 unfold al bN;rw[q,aR]
def Fc{a b:Nat}(hb:(b==0)=q9):al P (bN .rem xt x y (.int k a) (.int k b)) h=K.f (.int k ((a%b:Nat):Int)) h:=by
 have c:¬((b:Int)=0):=by simp at hb;omega
 have e:(a:Int).tmod b=((a%b:Nat):Int):=by rw[Int.tmod_eq_emod_of_nonneg U];rfl
 have q:(do W2 .rem xt x y (.int k a) (.int k b);binOp .rem xt (.int k a) (.int k b):Sem o5)=pure (.int k ((a%b:Nat):Int)):=by show(if k≠k then stuck "BinOp: operands of different kinds" else Op.intDiv .rem k a b)=_;simp only[ne_eq,not_true_eq_false,if_false,Op.intDiv,c,e]
 unfold al bN;rw[q,aR]
def yP{a b:Nat}(hb:Nat.ble b k.bits=J):al P (bN .shr xt x y (.int k a) (.int k' b)) h=K.f (.int k ((a/2^b:Nat):Int)) h:=by
 have e:min (b:Int).toNat k.bits=b:=by have:=Nat.le_of_ble_eq_true hb;simp;omega
 have q:(do W2 .shr xt x y (.int k a) (.int k' b);binOp .shr xt (.int k a) (.int k' b):Sem o5)=pure (.int k ((a/2^b:Nat):Int)):=by show Op.shift .shr k a k' b=_;simp only[Op.shift,if_neg (U:¬(b:Int)<0),e];congr 2;rw[Int.fdiv_eq_ediv_of_nonneg _ (by exact Int.pow_nonneg aty)];rw[(Y:(2:Int)^b=((2^b:Nat):Int))];rfl
 unfold al bN;rw[q,aR]
end
end
end Go.Nk
