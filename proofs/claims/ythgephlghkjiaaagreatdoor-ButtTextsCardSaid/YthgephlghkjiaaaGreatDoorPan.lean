/- Part Pan of the proof of ButtTexts: lemmas. -/
import Derived.Conc.SmallLaws
import Derived.Test.YthgephlghkjiaaaGreatDoorPam
set_option maxRecDepth 100000
set_option maxHeartbeats 4000000
set_option linter.all false
namespace Go.Nk
noncomputable section
open Go Go.Conc Go.Proofs
open Bool renaming true->J,false->q9,false_eq_true->N2
open Go renaming Value->o5,TypeId->ta,World->tg,deafBehind->A0,Deferred->tc,undef->vk,Program->tb,execOp->T0
open Go.ConcN renaming upd_ne->auc,upd_same->atY
open Go.IntKind renaming i64->xy,i32->awh
open Go.Proofs.Tryz renaming prog->pv,f172->ayZ,f147->ay0
open Go.Value renaming func->aAd,pointer->axx
open List renaming getD_cons_zero->aut,getD_cons_succ->aw6
open Nat renaming le_refl->vr,le_of_lt->awe,lt_of_le_of_lt->avQ
open Option renaming some->C,none->o0
def hY(n:Nat):bX:=((n/4:Nat),(n%4:Nat))
def JS:∀{n:Nat},n<8->hY n∈dm
 | 0,_|1,_|2,_|3,_|4,_|5,_|6,_|7,_=>by decide
 |n+8,h=>by omega
def afq{i j:Nat}(h:j<4):hY (4*i+j)=((i:Int),(j:Int)):=by unfold hY;rw[(U:(4*i+j)/4=i),(U:(4*i+j)%4=j)]
section
variable{main:Bool}{ai:Type}{Sy:Sys ai}{s:ai}{h:ae}{b:aS}
def afr{a:bX}(b:a∈dm):qK (eP fp iU 30 62 [rG [a]] (gd [sV [a]]))=C (gr 0 [a]):=HH (List.all_eq_true.1 aaE a b)
def afs{p:Nat}{o:Bool}{a:bX}(g:a∈dm)(j:pN h p a o):bz pv 62=J/\bo pv main Sy 62 ⟨[.slice (C ⟨p,0,o0⟩) 1 1]⟩ s h λd h' v=>d=s/\h.ar h'/\v=.int .i64 (gr 0 [a]):=by
 have e:=afr g;unfold qK at e;split at e
 .rename_i n H' l;cases e;obtain⟨m,q⟩:=uz (main:=main) (Sy:=Sy) (s:=s) (bs:=[(p,1)]) (h:=h) (args':=[.slice (C ⟨p,0,o0⟩) 1 1]) l rfl CV (λi x bG k' h1 f=>by
    match i with
    | 0=>simp at h1 f;obtain⟨rfl,rfl⟩:=f;subst h1;exact DW j
    |i+1=>simp at h1)
   (.cons (bj.sl (ρ:=iz [(p,1)]) (c:=12) (b:=p) (k:=1) 0 1 1 rfl) .nil)
  exact⟨m,q.mono λd h' v ⟨r,t,bq,w,u,y⟩=>⟨r,t,by cases u;rfl⟩⟩
 .cases e
def aft{ap bp yp np l p:Nat}{bS:Int}{o:Bool}{x:bX}(a:Nat->ai->Prop)(ad:x∈dm)(Cz:Ctx h ap bp yp np l bS)(M:pN h p x o)(ca:gr 0 [x]<=bS)(z0:a 0 s)
  (step:∀n,n<8->∀E h1,h.ar h1->a n E->(bS<gr 0 [x,hY n]->a (n+1) E)/\(gr 0 [x,hY n]<=bS->pM main Sy l x (hY n) E h1 (a (n+1)))):
  bo pv main Sy 141 #[.slice (C ⟨p,0,o0⟩) 1 1,aY ap,aY bp,aY yp,aY np] s h λc h' v=>a 8 c/\h.ar h'/\v=.bool J:=by
 refine bL (n:=50) (args:=[.slice (C ⟨p,0,o0⟩) 1 1,aY ap,aY bp,aY yp,aY np]) Tryz.func141 Il rfl Y Im ?_;simp only[aO,seval,Ik,Ij,Ii,Ih];intro t;refine JO (p0:=p) (m0:=1) (k0:=1) (bS:=bS) (l:=l) (n:=gr 0 [x]) rfl (by simp[aL,dC]) (by simp[aL,dC]) Cz (λh1 u=>afs ad (u _ _ M)) (λF h1 u y N=> ?_) t;have hd:decide (gr 0 [x]>bS)=q9:=atB
 rw[hd]at N;have u0:F 0=.slice (C ⟨p,0,o0⟩) 1 1:=by rw[y 0 aty aty aty aty];simp[aL,dC]
 have u2:F 2=aY bp:=by rw[y 2 aty aty aty aty];simp[aL,dC]
 have u4:F 4=aY np:=by rw[y 4 aty aty aty aty];simp[aL,dC]
 obtain⟨arr,o2,x1,y1,b3,bK,hb,bd,bh⟩:=(Cz.le u).b;have lb:∀(b:aS) (K:ai->ae->o5->Prop),@eX pv main _ Sy b 23 (.pointer (C ⟨bp,1,o0⟩)) s h1 ⟨K⟩=K s h1 (.slice y1 2 bK):=λb K=>jK (K:=⟨K⟩) Rx (A:=⟨bp,1,o0⟩) hb rfl bh;have la:∀(b:aS) (K:ai->ae->o5->Prop),@eX pv main _ Sy b 22 (.pointer (C ⟨bp,0,o0⟩)) s h1 ⟨K⟩=K s h1 (.slice x1 2 b3):=λb K=>jK (K:=⟨K⟩) afj (A:=⟨bp,0,o0⟩) hb rfl bd;simp only[aO,seval,Ig,P8,P7,P6,acL,acK,acJ,acI,N,u0,u2,aY,DU,Ry,Rz,lb,RA,afk,la,afl];refine du (λm e d c h'=>d=[]/\h.ar h'/\∃i:Nat,i<=2/\m=2- i/\e 0=.slice (C ⟨p,0,o0⟩) 1 1/\e 4=aY np/\e 27=.int .i64 2/\e 28=.int .i64 i/\a (4*i) c) (λm e d c h' Jz=> ?_) (m:=2) ⟨rfl,u,0,U,rfl,by simp[aL,u0],by simp[aL,u4],by simp[aL],by simp[aL],z0⟩;obtain⟨rfl,P,i,hi,rfl,v0,v4,B,G,z⟩:=Jz;by_cases bl:i=2
 .subst bl;have r:decide (((2:Nat):Int)<2)=q9:=aty
  simp only[aO,seval,P4,P3,P2,B,G,acr];refine bu Tryz.results141 Y ?_;exact⟨z,P,by simp[aL]⟩
 .have r:decide ((i:Int)<2)=J:=atB
  simp only[aO,seval,P4,P3,P2,acH,acG,acF,acE,acD,acC,B,G,r];refine du (λm e d c h'=>d=[]/\h.ar h'/\∃j:Nat,j<=4/\m=4- j/\e 0=.slice (C ⟨p,0,o0⟩) 1 1/\e 4=aY np/\e 27=.int .i64 2/\e 28=.int .i64 i/\e 7=.int .i64 i/\e 31=.int .i64 j/\a (4*i+j) c) (λm e d c h' Jz=> ?_) (m:=4) ⟨rfl,P,0,U,rfl,by simp[aL,v0],by simp[aL,v4],by simp[aL,B],by simp[aL,G],by simp[aL],by simp[aL],z⟩;obtain⟨rfl,f,j,hj,rfl,H,I,Q,R,S,D,W⟩:=Jz;by_cases bm:j=4
  .subst bm;have r:decide (((4:Nat):Int)<4)=q9:=aty
   simp only[aO,seval,P0,PZ,PY,acs,D,R,sJ];have L:xy.wrap ((i:Int)+1)=((i+1:Nat):Int):=by rcases(U:i=0\/i=1)with rfl|rfl<;>rfl
   exact⟨2- (i+1),U,trivial,f,i+1,U,rfl,H,I,Q,by rw[L],W⟩
  .have r:decide ((j:Int)<4)=J:=atB
   simp only[aO,seval,P0,PZ,PY,acB,acA,acz,acy,acx,D,r];intro cU;have X:4*i+j<8:=U
   have ab:=afq (i:=i) (j:=j) U;refine afp (x:=x) (i:=i) (j:=j) (Zz:=a (4*i+j+1)) (bS:=bS) (ap:=ap) (bp:=bp) (yp:=yp) (l:=l) (by simp[aL,H]) (by simp[aL,I]) (by simp[aL,S]) (by simp[aL]) (Cz.le f) (f _ _ M) (λh2 q k w hf hq=> ?_) (λe2 s2 h2 w g z2 bs=> ?_) cU
   .obtain⟨g1,g2⟩:=step (4*i+j) X c h2 (le_trans f w) W;rw[ab]at g1 g2;exact afo ad (by rw[<- ab];exact JS X) (Cz.le (le_trans f w)) hq g1 g2
   .have bt:e2 31=.int .i64 j:=by rw[g 31 aty];simp[aL,D]
    simp only[aO,seval,acw,acu,bs,bt,sJ];have L:xy.wrap ((j:Int)+1)=((j+1:Nat):Int):=by rcases(U:j=0\/j=1\/j=2\/j=3)with rfl|rfl|rfl|rfl<;>rfl
    exact⟨4- (j+1),U,trivial,le_trans f w,j+1,U,rfl,by rw[g 0 aty];simp[aL,H],by rw[g 4 aty];simp[aL,I],by rw[g 27 aty];simp[aL,Q],by rw[g 28 aty];simp[aL,R],by rw[g 7 aty];simp[aL,S],by rw[L],z2⟩
end
section
open Go.ConcM (OsLater muBlock MuAt muA msA)
namespace cK
variable{n i:Nat}{x:cK}
def afu(h:x.dF n)(hi:i<n)(g:x.md i=.rB)(c:Bool):x.S=1/\x.L=0/\x.K=0/\0<x.W/\(x.go i .own 1 x.K (if c then 0 else 1) (x.W- 1) x.M).dF n/\(x.go i .own 1 x.K (if c then 0 else 1) (x.W- 1) x.M).cn n<x.cn n:=by
 obtain⟨a1,a2,a3,j,k,b,d,f⟩:=nu hi x.md .own;obtain⟨l,r,s,t,m,aP⟩:=h;have o:=qx hi x.md;simp only[g,aN.iQ,aN.jb,aN.iq,aN.jc,aN.iH,aN.ir,aN.jH,aN.wt]at a1 a2 a3 j k b d f o;have a:x.S=1:=by
  rcases(U:x.S=0\/x.S=1)with e|e
  .have:=m e;omega
  .exact e
 obtain⟨bM,bE,p,q⟩:=aP a;refine⟨a,U,U,U,?_,?_⟩<;>cases c<;>(try refine⟨?_,?_,?_,?_,λe=>⟨?_,?_,?_,?_⟩,λe=>⟨?_,?_,?_,?_⟩⟩)<;>(try simp only[go,if_true,if_false,N2]at e)<;>(try simp only[go,cn,if_true,if_false,N2])<;>(first|omega|exactλ_=>.inl trivial|exactλ_=>.inr (.inl trivial))
def pO{m:aN}{L K S W M:Nat}(j:Nat)(a:j≠i):(x.go i m L K S W M).md j=x.md j/\(x.go i m L K S W M).dc j=x.dc j:=⟨auc _ _ a,rfl⟩
def oE{m:aN}{L K S W M:Nat}:(x.go i m L K S W M).md i=m:=atY _ _ _
def JU{m:aN}{L K S W M:Nat}(j:Nat)(a:j≠i):(x.mV i m L K S W M).md j=x.md j/\(x.mV i m L K S W M).dc j=x.dc j:=⟨auc _ _ a,auc _ _ a⟩
def RD{m:aN}{L K S W M:Nat}:(x.mV i m L K S W M).md i=m:=atY _ _ _
def RE{m:aN}{L K S W M:Nat}:(x.mV i m L K S W M).dc i=x.dc i- 1:=atY _ _ _
end cK
def afv{x:cK}{lo i:Nat}{m:aN}{L K S W M:Nat}(iM:∀j,x.md j≠.out->lo<=j)(hi:lo<=i):∀j,(x.mV i m L K S W M).md j≠.out->lo<=j:=λj a=>by
 by_cases e:j=i
 .subst e;exact hi
 .exact iM j (by rw[<- (cK.JU j e).1];exact a)
def afw{x:cK}{lo i:Nat}{m:aN}{L K S W M:Nat}(iM:∀j,x.md j≠.out->lo<=j)(hi:lo<=i):∀j,(x.go i m L K S W M).md j≠.out->lo<=j:=λj a=>by
 by_cases e:j=i
 .subst e;exact hi
 .exact iM j (by rw[<- (cK.pO j e).1];exact a)
abbrev dY(tM tW:ta)(os0:eI)(Post:o5->tg->Prop)(i:Nat):Sys av:=(fD pv tM tW os0 Post).im i
abbrev fE(f:FuncId):aS:=⟨f,.normal,o0⟩
section
variable{tM tW:ta}{os0:eI}{Post:o5->tg->Prop}{i:Nat}{aP s:av}{h:ae}{md:aN}{bC bd bB:Nat}{t:Bool}{g:List cV}
def Az{k m:Nat}:A0 k #[⟨.cell ⟨m,0,o0⟩,q9,J⟩,⟨.cell ⟨m,0,o0⟩,J,J⟩]=k:=by simp[A0]
def afx{k m:Nat}:A0 k #[⟨.cell ⟨m,0,o0⟩,q9,J⟩]=k:=by simp[A0]
def qO{k:Nat}:A0 k #[]=k:=by simp[A0]
def DX{K:av->ae->o5->Prop}{b:aS}(c:dI i aP s md bC bd t g)(e:aP.mu=bB)(hh:h bB=o0)(a:(pv.funcs[b.fn]?).any (·.norace)=J)
  (k:∀γ,gV i s γ->dI i aP γ md bC bd t g->(γ.cw=C i->γ.x.md i=.own)->∃x',we i γ x'/\x'.M=γ.x.M/\x'.mu=γ.x.mu/\K (γ.aZ i x' #[]) h (.int .i32 γ.x.mu)):
  eX pv q9 (dY tM tW os0 Post i) b 21 (.pointer (C ⟨bB,0,o0⟩)) s h (K:=⟨K⟩):=by
 obtain rfl:s.mu=bB:=c.cP.mu.trans e;exact ac0 c.w Rh a hh λγ aI d=>k γ aI (c.rel aI) d
def JV{K:av->ae->o5->Prop}{b:aS}(c:dI i aP s md bC bd t g)(f:aP.mu=bB)(hh:h bB=o0)(d:(pv.funcs[b.fn]?).any (·.norace)=J)
  (k:∀γ,gV i s γ->dI i aP (γ.aZ i γ.x #[]) md bC bd t g->K (γ.aZ i γ.x #[]) h (.int .i32 γ.x.mu)):
  eX pv q9 (dY tM tW os0 Post i) b 21 (.pointer (C ⟨bB,0,o0⟩)) s h (K:=⟨K⟩):=
 DX c f hh d λγ aI a e=>⟨γ.x,.refl aI.ok e,rfl,rfl,k γ aI (c.aZ aI a.md a.dc qO)⟩
def DY{K:av->ae->o5->Prop}{k new:Int}(c:dI i aP s md bC bd t g)(q:aP.mu=bB)(l:md≠.iv)(m:t=q9)
  (r:∀γ,gV i s γ->dI i aP γ md bC bd t g->(γ.x.mu:Int)=k->∃x' a b,x'.dF γ.cap/\((x'.mu:Nat):Int)=new/\x'.M=γ.x.M/\(∀j,j≠i->x'.md j=γ.x.md j/\x'.dc j=γ.x.dc j)/\x'.cn γ.cap<γ.x.cn γ.cap/\x'.md i=a/\x'.dc i=b/\∀γ',γ'.x=x'->γ'.cap=γ.cap->dI i aP γ' a bC b t g->K γ' h (.bool J))
  (n:∀γ,gV i s γ->(γ.x.mu:Int)≠k->∀γ',γ'.x=γ.x->γ'.cap=γ.cap->dI i aP γ' md bC bd t g->(∀p v,l9 s p v->l9 γ' p v)->K γ' h (.bool q9)):
  ej pv q9 (dY tM tW os0 Post i) 171 #[.pointer (C ⟨bB,0,o0⟩),.int .i32 k,.int .i32 new] s h (K:=⟨K⟩):=by
 obtain rfl:s.mu=bB:=c.cP.mu.trans q;refine acS c.w.pos c.w.on c.w.wk c.w.n0 c.w.aG At.f At.name At.body At.next At.find (λγ aI d=> ?_) λγ aI d=> ?_
 .obtain⟨x',a,b,c1,c2,c3,c4,c5,c6,cG,u⟩:=r γ aI (c.rel aI) d;refine⟨x',c1,c2,c3,c4,c5,λe=> ?_,λe=> ?_,u _ rfl rfl (c.aZ aI c6 cG Az)⟩
  .have:=(c.rel aI).cw.1 e;rw[m]at this;cases this
  .rw[(c.rel aI).md]at e;exact absurd e l
 .exact n γ aI d _ rfl rfl (c.aZ aI (c.rel aI).md (c.rel aI).dc afx) λp v o=>o.aZ aI (vr _) (λe=>absurd rfl e)
end
end
section
open Go.ConcM (OsLater muBlock MuAt muA msA)
section
variable{tM tW:ta}{os0:eI}{Post:o5->tg->Prop}{i:Nat}{aP s:av}{h:ae}{md:aN}{bC bd bB:Nat}{t:Bool}{g:List cV}
structure AA(i:Nat)(aP:av)(bB bd:Nat)(g:List cV)(e:Env)(s:av)(aw st:Bool)(it wt:Int)(W c p:Nat):Prop where
 e0:e 0=.pointer (C ⟨bB,0,o0⟩)
 e2:e 2=.int .i64 wt
 e3:e 3=.bool st
 e4:e 4=.bool aw
 e5:e 5=.int .i64 it
 e6:e 6=.int .i32 (8*W+c:Nat)
 cur:dI i aP s (.iu aw) 1 bd q9 g
 dW:c<8
 pP:W<100000000
 DZ:aw=J->c &&& 2≠0/\c &&& 4=0
 nN:st=J->aw=J
 ti:0<=it
 rQ:it<=4
 old:l9 s p (8*W+c)
def rR(i:Nat)(aP:av)(bB bd:Nat)(g:List cV)(h0:ae)(n:Nat)(e:Env)(d:List tc)(s:av)(h:ae):Prop:=d=[]/\h=h0/\∃b f a wt W c p,AA i aP bB bd g e s b f a wt W c p/\n=6*p+(4- a).toNat
def D7{γ:av}(ok:γ.x.dF γ.cap)(hb:γ.x.W<=24):∃W c,γ.x.mu=8*W+c/\c<8/\W<100000000/\W=γ.x.W/\c=γ.x.L+2*γ.x.K+4*γ.x.S:=by obtain⟨a,b,d⟩:=ok.dec hb;exact⟨_,_,a,b,d,rfl,rfl⟩
def afy{γ:av}(ok:γ.x.dF γ.cap){i:Nat}(hi:i<γ.cap)(a:γ.x.md i=.iu J){c:Nat}(hc:c=γ.x.L+2*γ.x.K+4*γ.x.S):c &&& 2≠0/\c &&& 4=0:=by obtain⟨k,z⟩:=cK.awake ok hi a;have:=ok.fv;rcases(U:γ.x.L=0\/γ.x.L=1)with e|e<;>rw[e,k,z]at hc<;>subst hc<;>decide
def D8{aw st:Bool}{it wt:Int}{γ:av}{e:Env}(b:γ.x.dF γ.cap)(f:∀j,γ.x.md j≠.out->γ.n0<=j)(a:dI i aP γ (.iu aw) 1 bd q9 g)(e0:e 0=.pointer (C ⟨bB,0,o0⟩))(e2:e 2=.int .i64 wt)(e3:e 3=.bool st)(e4:e 4=.bool aw)(e5:e 5=.int .i64 it)
  (e6:e 6=.int .i32 γ.x.mu) (nN:st=J->aw=J) (o:0<=it) (p:it<=4):rR i aP bB bd g h (6*γ.x.cn γ.cap+(4- it).toNat) e [] γ h:=by
 obtain⟨W,c,d,k,l,q,m⟩:=D7 b (b.te f a.df);refine⟨rfl,rfl,aw,st,it,wt,W,c,γ.x.cn γ.cap,⟨e0,e2,e3,e4,e5,by rw[e6,d],a,k,l,λn=> ?_,nN,o,p,?_⟩,rfl⟩
 .subst n;exact afy b a.cap a.md m
 .rw[<- d];exact l9.new
def afz:∀c<8,c &&& 5≠0->c=1\/c=3\/c=4\/c=5\/c=6\/c=7:=aty
def afA(W c:Nat)(st aw:Bool)(h:c=0\/c=2):8*(bR W c)+dq c st aw=8*W+1+(if aw then 0 else c):=by rcases h with rfl|rfl<;>cases st<;>cases aw<;>simp[bR,dq,n4,cQ,bK]
def afB(L K S W:Nat)(st aw:Bool)(a:L<=1)(d:K<=1)(hs:S<=1)(h:(L+2*K+4*S) &&& 5≠0)(b:st=J->aw=J)(c:aw=J->S=0):8*(bR W (L+2*K+4*S))+dq (L+2*K+4*S) st aw=L+2*(if aw then 0 else K)+4*(if st then 1 else S)+8*(W+1):=by
 rcases(U:L=0\/L=1)with rfl|rfl<;>rcases(U:K=0\/K=1)with rfl|rfl<;>rcases(U:S=0\/S=1)with rfl|rfl<;>cases st<;>cases aw<;>simp_all[bR,dq,n4,cQ,bK]<;>omega
def RG(L K S:Nat)(a:L<=1)(b:K<=1)(hs:S<=1):((L+2*K+4*S) &&& 5=0↔L=0/\S=0):=by rcases(U:L=0\/L=1)with rfl|rfl<;>rcases(U:K=0\/K=1)with rfl|rfl<;>rcases(U:S=0\/S=1)with rfl|rfl<;>simp
end
end
section
open Go.ConcM (OsLater muBlock MuAt muA msA)
section
variable{tM tW:ta}{os0:eI}{Post:o5->tg->Prop}{i:Nat}{aP s:av}{h:ae}{bd bB:Nat}{g:List cV}
variable{K:eM->Env->List tc->av->ae->Prop}{e:Env}
def RH:awh.wrap (-11)= -11:=aty
def yk(i:Nat)(aP:av)(bB bd:Nat)(g:List cV)(h0:ae)(e:Env)(d:List tc)(s:av)(h:ae):Prop:=d=[]/\h=h0/\e 0=.pointer (C ⟨bB,0,o0⟩)/\dI i aP s .own 1 bd q9 g
def JW{del:Int}(n:aP.mu=bB)(a:dI i aP s .rB 1 bd q9 g)(e0:e 0=.pointer (C ⟨bB,0,o0⟩))(f:e 9=.int .i32 del)(hd:del= -7\/del= -11)
  (kx:∀e d s h',yk i aP bB bd g h e d s h'->K (.ext 0) e d s h'):
  cB pv q9 (dY tM tW os0 Post i) 139 (fE 172) IK K e [] s h:=by
 simp only[aO,seval,adi,e0,f,pJ];obtain rfl:s.mu=bB:=a.cP.mu.trans n;refine Qf a.w Rd λγ aI p=> ?_;have hc:=a.rel aI;obtain⟨c,j⟩:∃c:Bool,del=if c then -11 else -7:=by rcases hd with rfl|rfl;exact⟨q9,rfl⟩;exact⟨J,rfl⟩
 obtain⟨q,r,k,t,l,b⟩:=cK.afu aI.ok hc.cap hc.md c;have hb:=aI.ok.kI;have u:=aI.ok.te aI.iM hc.df;have m:γ.x.mu=8*γ.x.W+4:=by unfold cK.mu;omega
 refine⟨_,⟨l,cK.pO,awe b,λ_=>b,λ_=>cK.oE,λe=>by rw[hc.md]at e;cases e⟩,rfl,?_,?_⟩
 .rw[m];have o:(γ.x.go i .own 1 γ.x.K (if c then 0 else 1) (γ.x.W- 1) γ.x.M).mu=1+4*(if c then 0 else 1)+8*(γ.x.W- 1):=by show 1+2*γ.x.K+4*(if c then 0 else 1)+8*(γ.x.W- 1)=_;rw[k]
  rw[o,j];cases c
  .simp only[N2,if_false];rw[(U:((8*γ.x.W+4:Nat):Int)+ -7=((1+4*1+8*(γ.x.W- 1):Nat):Int))];exact(wrap32 U).symm
  .simp only[if_true];rw[(U:((8*γ.x.W+4:Nat):Int)+ -11=((1+4*0+8*(γ.x.W- 1):Nat):Int))];exact(wrap32 U).symm
 .exact kx _ _ _ _ ⟨rfl,rfl,by simp[aL,eU,e0],a.aZ aI cK.oE hc.dc Az⟩
def RI{st:Bool}{wt it:Int}{aw:Bool}{p:Nat}(j:aP.mu=bB)(hh:h bB=o0)(o:dI i aP s .py 1 bd q9 g)(B:s.x.cn s.cap<p)(e0:e 0=.pointer (C ⟨bB,0,o0⟩))(e2:e 2=.int .i64 wt)(e3:e 3=.bool st)
  (kx:∀e d s h',yk i aP bB bd g h e d s h'->K (.ext 0) e d s h') (t:∀e d s h' n,n<6*p->rR i aP bB bd g h n e d s h'->K .cx e d s h'):
  cB pv q9 (dY tM tW os0 Post i) 139 (fE 172) Dx K e [] s h:=by
 simp only[aO,seval,adp,e0,pJ];refine DX (b:=fE 172) o j hh DO λγ aI hc D=> ?_;obtain⟨W,c,q,R,X,w4,E⟩:=D7 aI.ok (aI.ok.te aI.iM hc.df);have F:γ.x.cn γ.cap<p:=by have:=aI.rel.cn;rw[aI.rel.cap];omega
 have G:=aI.ok.s1;rcases(U:γ.x.S=0\/γ.x.S=1)with l|l
 .obtain⟨k,r,z⟩:=cK.Yp aI.ok hc.cap hc.md l;refine⟨_,⟨k,cK.pO,awe r,λe=>absurd rfl e,λe=>(by have:=hc.cw.1 e;cases this),λe=>by rw[hc.md]at e;cases e⟩,rfl,rfl,?_⟩;have H:(γ.x.go i (.iu J) γ.x.L γ.x.K γ.x.S γ.x.W γ.x.M).mu=γ.x.mu:=rfl;have I:=aI.ok.fv;have a:c=2\/c=3:=U
  have f:=o.aZ (evs:=#[]) aI (x':=γ.x.go i (.iu J) γ.x.L γ.x.K γ.x.S γ.x.W γ.x.M) cK.oE hc.dc qO;have u:6*(γ.x.go i (.iu J) γ.x.L γ.x.K γ.x.S γ.x.W γ.x.M).cn γ.cap+4<6*p:=U
  have m:W<134217728:=U
  have A:∀bJ,c=bJ->(8*W+bJ:Nat)=γ.x.mu:=λbJ h=>by rw[q,h]
  rw[q];rcases a with a|a<;>rw[a]<;>simp only[aO,seval,Qs,adh,adg,Qr,Qq,lK,bne,seval,m]<;>exact t _ _ _ _ _ u (D8 (aw:=J) (st:=st) (wt:=wt) (it:=0) (γ:=γ.aZ i (γ.x.go i (.iu J) γ.x.L γ.x.K γ.x.S γ.x.W γ.x.M) #[]) k (afw aI.iM hc.w.n0) f (by simp[aL,e0]) (by simp[aL,e2]) (by simp[aL,e3]) (by simp[aL]) (by simp[aL]) (by simp only[aL,Nat.reduceEqDiff,↓reduceIte,A _ a];rfl) (λ_=>rfl) U U)
 .obtain⟨k,r,z,N,P⟩:=cK.Yq aI.ok hc.cap hc.md l;refine⟨_,⟨k,cK.pO,r,λe=>absurd rfl e,λe=>(by have:=hc.cw.1 e;cases this),λe=>by rw[hc.md]at e;cases e⟩,rfl,rfl,?_⟩;have a:c=4:=U
  have m:W<134217728:=U
  have v:¬((W:Nat):Int)=0:=U
  have f:=o.aZ (evs:=#[]) aI (x':=γ.x.go i .rB γ.x.L γ.x.K γ.x.S γ.x.W γ.x.M) cK.oE hc.dc qO;rw[q,a];have y:(((W:Nat):Int)==0)=q9:=by simpa using v
  simp only[aO,seval,Qs,Qr,Qq,ado,adn,adm,adk,adj,lK,bne,seval,m,y];cases st with
  |false=>simp only[aO,vk,seval,Qp,IP,IN,seval,e3,xA,RH];exact JW (K:=K) (del:= -11) j f (by simp[aL,e0]) (by simp[aL]) (.inr rfl) kx
  |true=>
   simp only[aO,seval,Qp,lK,seval,e3];cases Q:(((W:Nat):Int)==1)with
   |false=>simp only[aO,seval,IP,IN,seval];exact JW (K:=K) (del:= -7) j f (by simp[aL,e0]) (by simp[aL]) (.inl rfl) kx
   |true=>simp only[aO,seval,IP,IN,seval,xA,RH];exact JW (K:=K) (del:= -11) j f (by simp[aL,e0]) (by simp[aL]) (.inr rfl) kx
end
end
section
open Go.ConcM (OsLater muBlock MuAt muA msA)
section
variable{tM tW:ta}{os0:eI}{Post:o5->tg->Prop}{i:Nat}{aP s:av}{h:ae}{bd bB:Nat}{g:List cV}
variable{K:eM->Env->List tc->av->ae->Prop}{e:Env}
def RJ{k:Nat}{a:Addr}:A0 k (semEvents a)=k:=by simp[A0,semEvents]
def RK{st:Bool}{wt it:Int}{p:Nat}(m:aP.mu=bB)(hh:h bB=o0)(a:dI i aP s .iv 1 bd q9 g)(v:s.x.cn s.cap<p)(e0:e 0=.pointer (C ⟨bB,0,o0⟩))(e2:e 2=.int .i64 wt)(e3:e 3=.bool st)
  (kx:∀e d s h',yk i aP bB bd g h e d s h'->K (.ext 0) e d s h') (j:∀e d s h' n,n<6*p->rR i aP bB bd g h n e d s h'->K .cx e d s h'):
  cB pv q9 (dY tM tW os0 Post i) 139 (fE 172) Dw K e [] s h:=by
 obtain rfl:s.mu=bB:=a.cP.mu.trans m;simp only[aO,seval,adq,e0,JD];refine acT a.w aeL rfl a.cap a.md λγ aI o=> ?_;have hc:=a.rel aI;obtain⟨y,q⟩:=cK.Oi aI.ok hc.cap hc.md o;have b:=a.aZ (evs:=semEvents (msA s.mu)) aI (x':=γ.x.go i .py γ.x.L γ.x.K γ.x.S γ.x.W (γ.x.M- 1)) cK.oE hc.dc RJ;have k:(γ.x.go i .py γ.x.L γ.x.K γ.x.S γ.x.W (γ.x.M- 1)).cn γ.cap<p:=by have:=aI.rel.cn;rw[aI.rel.cap]at q ⊢;omega
 have l:aP.mu=s.mu:=m;cases st with
 |true=>simp only[aO,vk,seval,Qt,e3];exact RI (st:=J) (wt:=wt) (it:=it) (aw:=J) (p:=p) l hh b k (by simp[aL,e0]) (by simp[aL,e2]) (by simp[aL]) kx j
 |false=>
  simp only[aO,seval,Qt,e3];refine Qi b.w Rf Rg λf bR c=> ?_;have r:=b.aZ (evs:=#[]) c (x':=f.x) (b.rel c).md (b.rel c).dc qO;have t:f.x.cn f.cap<p:=by have h1:=c.rel.cn;have u:=c.rel.cap;rw[u];exact avQ h1 k
  simp only[aO,seval,e2,xA];exact RI (st:=decide (xy.wrap (bR- wt)>1000000)) (wt:=wt) (it:=it) (aw:=J) (p:=p) l hh r t (by simp[aL,e0]) (by simp[aL,e2]) (by simp[aL]) kx j
end
end
section
open Go.ConcM (OsLater muBlock MuAt muA msA)
section
variable{tM tW:ta}{os0:eI}{Post:o5->tg->Prop}{i:Nat}{aP s:av}{h:ae}{bd bB:Nat}{g:List cV}
variable{K:eM->Env->List tc->av->ae->Prop}{e:Env}
def afC{st:Bool}{wt it:Int}{p:Nat}(k:aP.mu=bB)(hh:h bB=o0)(b:dI i aP s .iv 1 bd q9 g)(f:s.x.cn s.cap<p)(e0:e 0=.pointer (C ⟨bB,0,o0⟩))(e2:e 2=.int .i64 wt)(e3:e 3=.bool st)
  (kx:∀e d s h',yk i aP bB bd g h e d s h'->K (.ext 0) e d s h') (j:∀e d s h' n,n<6*p->rR i aP bB bd g h n e d s h'->K .cx e d s h'):
  cB pv q9 (dY tM tW os0 Post i) 139 (fE 172) Du K e [] s h:=by
 simp only[aO,seval,adv,adu,adt,ads,e2];cases hb:(wt==0)with
 |true=>
  simp only[aO,seval,adr];refine Qi b.w Rf Rg λc bR a=> ?_;have l:=b.aZ (evs:=#[]) a (x':=c.x) (b.rel a).md (b.rel a).dc qO;have m:c.x.cn c.cap<p:=by have h1:=a.rel.cn;have o:=a.rel.cap;rw[o];exact avQ h1 f
  simp only[aO,seval];exact RK (st:=st) (wt:=bR) (it:=it) (p:=p) k hh l m (by simp[aL,e0]) (by simp[aL]) (by simp[aL,e3]) kx j
 |false=>simp only[aO,seval];exact RK (st:=st) (wt:=wt) (it:=it) (p:=p) k hh b f (by simp[aL,e0]) (by simp[aL,e2]) (by simp[aL,e3]) kx j
def afD{aw st:Bool}{it wt:Int}{W c p:Nat}(q:aP.mu=bB)(hh:h bB=o0)(I:AA i aP bB bd g e s aw st it wt W c p)(e7:e 7=.int .i32 (8*(bR W c)+dq c st aw:Nat))
  (kx:∀e d s h',yk i aP bB bd g h e d s h'->K (.ext 0) e d s h') (A:∀e d s h' n,n<6*p+(4- it).toNat->rR i aP bB bd g h n e d s h'->K .cx e d s h'):
  cB pv q9 (dY tM tW os0 Post i) 139 (fE 172) yc K e [] s h:=by
 have e0:=I.e0;have m:=I.e2;have F:=I.e3;have a6:=I.e4;have a7:=I.e5;have w:=I.e6;have b0:=I.pP;have a8:=I.dW;have B:W<134217728:=U
 simp only[aO,seval,adx,e0,w,e7,pJ];refine DY I.cur q Y rfl (λγ aI hc G=> ?_) (λγ aI G j r t hc H=> ?_)
 ·
  have bh:γ.x.mu=8*W+c:=U
  obtain⟨q1,q2,q3⟩:=aI.ok.dec (aI.ok.te aI.iM hc.df);have M:W=γ.x.W/\c=γ.x.L+2*γ.x.K+4*γ.x.S:=U
  obtain⟨N,a⟩:=M;have hp:=(I.old.rel aI).1;by_cases l:c &&& 5=0
  .obtain⟨u,P⟩:=(RG γ.x.L γ.x.K γ.x.S aI.ok.fv aI.ok.k1 aI.ok.s1).1 (by rw[<- a];exact l);have bp:=aI.ok.k1;have D:c=0\/c=2:=U
   obtain⟨y,z⟩:=cK.acq aI.ok hc.cap hc.md u P;refine⟨_,.own,bd,y,?_,rfl,cK.pO,z,cK.oE,hc.dc,λj r t v=> ?_⟩
   .rw[afA W c st aw D];show((1+2*(if aw then 0 else γ.x.K)+4*0+8*γ.x.W:Nat):Int)=_;cases aw
    .simp only[N2,if_false];congr 1;omega
    .simp only[if_true];congr 1;omega
   .rcases D with rfl|rfl<;>simp only[aO,seval,IW,Qy,Qx,Qw,lK,seval,w,B]<;>exact kx _ _ _ _ ⟨rfl,rfl,by simp[aL,e0],v⟩
  .have u:st=J->γ.x.L=1:=λh=>by
    have h1:=I.DZ (I.nN h);have hs:=aI.ok.s1;have E:=aI.ok.fv;have hk:=aI.ok.k1;rcases(U:γ.x.L=0\/γ.x.L=1)with e|e
    .exfalso;apply l;rcases(U:γ.x.K=0\/γ.x.K=1)with k|k<;>rcases(U:γ.x.S=0\/γ.x.S=1)with m|m<;>rw[e,k,m]at a<;>subst a<;>first|decide|exact absurd h1.2 aty
    .exact e
   have Q:γ.x.L=1\/γ.x.S=1:=by
    have hs:=aI.ok.s1;have E:=aI.ok.fv;have:=(RG γ.x.L γ.x.K γ.x.S E aI.ok.k1 hs);rcases(U:γ.x.L=0\/γ.x.L=1)with e|e
    .rcases(U:γ.x.S=0\/γ.x.S=1)with k|k
     .exact absurd (this.2 ⟨e,k⟩) (by rw[<- a];exact l)
     .exact .inr k
    .exact .inl e
   obtain⟨y,z⟩:=cK.iv aI.ok hc.cap (st:=st) hc.md Q (λh=>⟨I.nN h,u h⟩);have R:aw=J->γ.x.S=0:=λh=>by subst h;exact(cK.awake aI.ok hc.cap hc.md).2
   refine⟨_,.iv,bd,y,?_,rfl,cK.pO,z,cK.oE,hc.dc,λj r t v=> ?_⟩
   .rw[N,a,afB _ _ _ _ _ _ aI.ok.fv aI.ok.k1 aI.ok.s1 (by rw[<- a];exact l) I.nN R];rfl
   .have X:j.x.cn j.cap<p:=by rw[r,t];omega
    rcases afz c a8 l with rfl|rfl|rfl|rfl|rfl|rfl<;>simp only[aO,seval,IW,Qy,Qx,Qw,lK,seval,w,B]<;>exact afC (st:=st) (wt:=wt) (it:=it) (p:=p) q hh v X (by simp[aL,e0]) (by simp[aL,m]) (by simp[aL,F]) kx (λe d s h' n hn=>A e d s h' n U)
 ·
  have ab:=H p (8*W+c) I.old;have ad:j.x.mu≠8*W+c:=by rw[r];omega
  have af:=ab.2 ad;obtain rfl:j.mu=bB:=hc.cP.mu.trans q;simp only[aO,seval,IW,adw,e0,pJ];refine JV (b:=fE 172) hc q hh DO λf o ag=> ?_;have bt:f.x.cn f.cap<p:=by have h1:=o.rel.cn;have h2:=o.rel.cap;rw[h2];exact avQ h1 af
  have bb:=I.ti;have az:=I.rQ;exact A _ _ _ _ (6*f.x.cn f.cap+(4- it).toNat) U (D8 (aw:=aw) (st:=st) (wt:=wt) (it:=it) (γ:=f.aZ i f.x #[]) o.ok o.iM ag (by simp[aL,eU,e0]) (by simp[aL,eU,m]) (by simp[aL,eU,F]) (by simp[aL,eU,a6]) (by simp[aL,eU,a7]) (by simp[aL,eU];rfl) I.nN bb az)
end
end
section
open Go.ConcM (OsLater muBlock MuAt muA msA)
section
variable{tM tW:ta}{os0:eI}{Post:o5->tg->Prop}{i:Nat}{aP s:av}{h:ae}{bd bB:Nat}{g:List cV}
variable{K:eM->Env->List tc->av->ae->Prop}{e:Env}
def RL{γ:av}{p:Nat}(aI:gV i s γ)(a:s.x.cn s.cap<=p):γ.x.cn γ.cap<=p:=by have h1:=aI.rel.cn;have b:=aI.rel.cap;rw[b];exact Nat.le_trans h1 a
def wrap64{n:Int}(h0:0<=n)(h:n<100):xy.wrap n=n:=by simp only[IntKind.wrap,IntKind.bits,IntKind.signed];simp;omega
def JX{aw st:Bool}{it wt:Int}{p:Nat}(j:aP.mu=bB)(hh:h bB=o0)(a:dI i aP s (.iu aw) 1 bd q9 g)(k:s.x.cn s.cap<=p)(e0:e 0=.pointer (C ⟨bB,0,o0⟩))(e2:e 2=.int .i64 wt)(e3:e 3=.bool st)(e4:e 4=.bool aw)(e5:e 5=.int .i64 it)
  (nN:st=J->aw=J) (t:0<=it) (u:it<4)
  (l:∀e d s h' n,n<6*p+(4- it).toNat->rR i aP bB bd g h n e d s h'->K (.ext 1) e d s h'):
  cB pv q9 (dY tM tW os0 Post i) 139 (fE 172) Ap K e [] s h:=by
 simp only[aO,seval,adS];refine acW a.w aeK λγ aI=> ?_;have hc:=a.aZ (evs:=#[]) aI (x':=γ.x) (a.rel aI).md (a.rel aI).dc qO;have m:(γ.aZ i γ.x #[]).x.cn (γ.aZ i γ.x #[]).cap<=p:=(RL aI k:γ.x.cn γ.cap<=p);obtain rfl:s.mu=bB:=a.cP.mu.trans j;have o:aP.mu=s.mu:=j;simp only[aO,seval,adR,adQ,e0,e5,pJ,sJ];refine JV (b:=fE 172) hc o hh DO λc f q=> ?_;have r:=RL f m;simp only[aO,seval];refine l _ _ _ _ (6*c.x.cn c.cap+(4- (it+1)).toNat) U (D8 (aw:=aw) (st:=st) (wt:=wt) (it:=it+1) (γ:=c.aZ i c.x #[]) f.ok f.iM q (by simp[aL,e0]) (by simp[aL,e2]) (by simp[aL,e3]) (by simp[aL,e4]) (by simp[aL];exact wrap64 U U) (by simp[aL];rfl) nN U U)
def afE{aw st:Bool}{it wt:Int}{W c p:Nat}(b:aP.mu=bB)(hh:h bB=o0)(I:AA i aP bB bd g e s aw st it wt W c p)(y:c=1\/c=3)(l:it<4)
  (f:∀e d s h' n,n<6*p+(4- it).toNat->rR i aP bB bd g h n e d s h'->K (.ext 1) e d s h'):
  cB pv q9 (dY tM tW os0 Post i) 139 (fE 172) Ao K e [] s h:=by
 have e0:=I.e0;have m:=I.e2;have o:=I.e3;have a:=I.e4;have q:=I.e5;have r:=I.e6;have Q:=I.pP;have j:W<134217728:=U
 have t:∀u,fA 7 e u->cB pv q9 (dY tM tW os0 Post i) 139 (fE 172) Ap K u [] s h:=λu k=>JX b hh I.cur I.old.1 (by rw[k 0 U,e0]) (by rw[k 2 U,m]) (by rw[k 3 U,o]) (by rw[k 4 U,a]) (by rw[k 5 U,q]) I.nN I.ti l f
 cases aw with
 |true=>simp only[aO,vk,seval,DH,DG,DF,seval,a];exact t _ (by repeat (first|exact fA.refl _ _|refine fA.upd ?_ U))
 |false=>
  rcases y with rfl|rfl
  .cases hb:(((W:Nat):Int)==0)with
   |true=>simp only[aO,vk,seval,DH,DG,DF,lK,bne,seval,a,r,j,hb];exact t _ (by repeat (first|exact fA.refl _ _|refine fA.upd ?_ U))
   |false=>
    simp only[aO,seval,DH,DG,DF,lK,bne,seval,e0,a,r,j,hb,pJ];refine DY I.cur b Y rfl (λγ aI hc z=> ?_) (λγ aI z D w v hc A=> ?_)
    .have G:γ.x.mu=8*W+1:=U
     obtain⟨H,L,M⟩:=aI.ok.dec (aI.ok.te aI.iM hc.df);have N:=aI.ok.fv;have R:=aI.ok.k1;have hs:=aI.ok.s1;obtain⟨E,F⟩:=cK.Yo aI.ok hc.cap hc.md U U U;have P:=(I.old.rel aI).1;refine⟨_,.iu J,bd,E,?_,rfl,cK.pO,F,cK.oE,hc.dc,λD w v B=> ?_⟩
     .show((1+2*1+4*0+8*γ.x.W:Nat):Int)=_;have:γ.x.W=W:=U
      rw[this];congr 1;show _=8*W+3;omega
     .simp only[aO,seval,adT];exact JX (aw:=J) (st:=st) (it:=it) (wt:=wt) (p:=p) b hh B (by rw[w,v];omega) (by simp[aL,e0]) (by simp[aL,m]) (by simp[aL,o]) (by simp[aL]) (by simp[aL,q]) (λ_=>rfl) I.ti l f
    .simp only[aO,seval];exact JX (aw:=q9) (st:=st) (it:=it) (wt:=wt) (p:=p) b hh hc (A p _ I.old).1 (by simp[aL,e0]) (by simp[aL,m]) (by simp[aL,o]) (by simp[aL,a]) (by simp[aL,q]) I.nN I.ti l f
  .simp only[aO,vk,seval,DH,DG,DF,lK,seval,a,r,j];exact t _ (by repeat (first|exact fA.refl _ _|refine fA.upd ?_ U))
end
end
section
open Go.ConcM (OsLater muBlock MuAt muA msA)
section
variable{P:tb}{tM tW:ta}{os0:eI}{Post:o5->tg->Prop}{i:Nat}{s:av}{h:ae}{K:av->ae->o5->Prop}
def afF(W:lJ i s){b:aS}{st c t:ta}(hs:P.underlying st=C (.pointer t))(hd:P.underlying c=C .unsafePointer)(d:(P.info? t).map (λi=>decide (i.size=0))=C q9)(hh:h s.mu=o0)
  (l:∀γ,gV i s γ->K (γ.aZ i γ.x #[]) h (.pointer (C (muA s.mu)))):
  iw P q9 ((fD P tM tW os0 Post).im i) b st c (.pointer (C (muA s.mu))) s h (K:=⟨K⟩):=by
 show if(h s.mu).isSome=J then _ else _
 rw[hh,if_neg Y];intro o aA y e m;refine Is W λa ops j rest k cs u n p v γ w aI q f=> ?_;subst n;have hc:w.cell? (muA s.mu)=C (.int .i32 γ.x.mu):=f.cellSt;have r:(T0 a.eval o).runT P w #[]=(.ok (.value (.pointer (C (muA s.mu)))) w,#[]):=by
  rw[wb];have z:T0 a.eval o=(do pure (.value (<- convert st c (.pointer (C (muA s.mu))))):Sem Next):=by unfold T0;rw[e,<- m]
  rw[z];refine Prod.ext ?_ ?_
  .simp[run_convert_to_unsafe hs hd d hc,Result.andThen]
  .simp[events_convert_to_unsafe hs hd d hc]
 have g:=sz (P:=P) (main:=q9) (rest:=rest) (k:=k) (cs:=cs) p v (by unfold kS;rw[e]) u r rfl;rw[seen_none]at g;exact⟨γ.x,_,w,#[],g,.refl aI.ok q,vr _,rfl,λ_ _=>rfl,f,.refl _,Y,l γ aI⟩
end
end
section
open Go.ConcM (OsLater muBlock MuAt muA msA)
section
variable{tM tW:ta}{os0:eI}{Post:o5->tg->Prop}{i:Nat}{aP s:av}{h:ae}{bd bB:Nat}{g:List cV}
variable{K:eM->Env->List tc->av->ae->Prop}{e:Env}{md:aN}{bC:Nat}{t:Bool}
def afG:∀c<8,(c &&& 5=1)->c=1\/c=3:=aty
def afH{n:Nat}{d:List tc}{h':ae}(z:aP.mu=bB)(hh:h bB=o0)(Jz:rR i aP bB bd g h n e d s h')
  (kx:∀e d s h',yk i aP bB bd g h e d s h'->K (.ext 0) e d s h') (r:∀e d s h' m,m<n->rR i aP bB bd g h m e d s h'->K .cx e d s h'):
  cB pv q9 (dY tM tW os0 Post i) 139 (fE 172) Dq K e d s h':=by
 obtain⟨rfl,rfl,aw,st,it,wt,W,c,p,I,rfl⟩:=Jz;have M:=I.e4;have H:=I.e5;have A:=I.e6;have N:=I.pP;have u:W<134217728:=U
 have rest:∀f b,AA i aP bB bd g f b aw st it wt W c p->cB pv q9 (dY tM tW os0 Post i) 139 (fE 172) Am (lV 1 K) f [] b h':=λf b a=>by
  refine ae0 a.pP a.dW a.e3 a.e4 a.e6 (λh=>(a.DZ h).1) λP j L=> ?_;refine afD (K:=lV 1 K) z hh ⟨by rw[j 0 U,a.e0],by rw[j 2 U,a.e2],by rw[j 3 U,a.e3],by rw[j 4 U,a.e4],by rw[j 5 U,a.e5],by rw[j 6 U,a.e6],a.cur,a.dW,a.pP,a.DZ,a.nN,a.ti,a.rQ,a.old⟩ L (λe d s B q=> ?_) λe d s B m l q=> ?_
  .rw[PG _ _ _ _ _ _ _ Y];exact kx _ _ _ _ q
  .rw[PE];exact r _ _ _ _ m l q
 have keep:∀f b,fA 7 e f->dI i aP b (.iu aw) 1 bd q9 g->l9 b p (8*W+c)->AA i aP bB bd g f b aw st it wt W c p:=λf b k hc E=>⟨by rw[k 0 U,I.e0],by rw[k 2 U,I.e2],by rw[k 3 U,I.e3],by rw[k 4 U,I.e4],by rw[k 5 U,I.e5],by rw[k 6 U,I.e6],hc,I.dW,I.pP,I.DZ,I.nN,I.ti,I.rQ,E⟩
 have o:=I.dW;by_cases v:c &&& 5=1
 .have hb:(((c &&& 5:Nat):Int)==1)=J:=by rw[v];rfl
  simp only[aO,seval,QO,QN,QM,QL,lK,seval,u,o,H,A,hb];refine acV I.cur.w aeJ λγ t aI F=> ?_;have y:=I.cur.aZ (evs:=#[]) aI (x':=γ.x) (I.cur.rel aI).md (I.cur.rel aI).dc qO;have D:=I.old.aZ (evs:=#[]) aI (x':=γ.x) (vr _) (λe=>absurd rfl e);cases t with
  |true=>
   have G:it<4:=by refine Int.lt_of_not_ge λh=> ?_;have:=F h;cases this
   simp only[aO,seval];refine afE (aw:=aw) (st:=st) (it:=it) (wt:=wt) (W:=W) (c:=c) (p:=p) z hh (keep _ _ (by repeat (first|exact fA.refl _ _|refine fA.upd ?_ U)) y D) (afG c o v) G λe d s B m l q=> ?_;rw[HI,HJ];exact r _ _ _ _ m l q
  |false=>simp only[aO,seval];exact rest _ _ (keep _ _ (by repeat (first|exact fA.refl _ _|refine fA.upd ?_ U)) y D)
 .have hb:(((c &&& 5:Nat):Int)==1)=q9:=by simp only[beq_eq_false_iff_ne,ne_eq];omega
  simp only[aO,vk,seval,QO,QN,QM,QL,lK,seval,u,o,A,hb];exact rest _ _ (keep _ _ (by repeat (first|exact fA.refl _ _|refine fA.upd ?_ U)) I.cur I.old)
def yl(i:Nat)(aP:av)(bd:Nat)(g:List cV)(h0:ae)(s:av)(h:ae)(v:o5):Prop:=∃aT:ae,dI i aP s .own 0 bd J g/\s.I s.cN aT/\aT.kK/\h=h0.add aT/\∀b x,aT b=C x->h0 b=o0
def JY:A0 1 #[⟨.mark .enable,q9,J⟩]=0:=by simp[A0]
def RN:A0 0 #[⟨.mark .disable,q9,J⟩]=1:=by simp[A0]
def RO{x:Array o5}{K:av->ae->o5->Prop}(m:aP.mu=bB)(a:dI i aP s .own 0 bd q9 g)(n:x=#[.pointer (C ⟨bB,0,o0⟩)])
  (k:∀d aT,dI i aP d .own 0 bd J g->d.I d.cN aT->aT.kK->(∀b x,aT b=C x->h b=o0)->K d (h.add aT) (.tuple #[])):
  ej pv q9 (dY tM tW os0 Post i) 148 x s h (K:=⟨K⟩):=by
 obtain rfl:s.mu=bB:=a.cP.mu.trans m;subst n;refine acY a.w yg rfl a.cap a.md a.bC (λe=>by have:=a.cw.1 e;cases this) λγ aI f j hd l=> ?_;have c:=a.rel aI;exact k _ _ ⟨⟨c.w.pos,c.w.on,c.w.wk,c.w.n0,c.w.aG⟩,c.cap,c.df,⟨c.cP.aG,c.cP.cap,c.cP.n0,c.cP.mu,c.cP.wg,c.cP.on,c.cP.I,c.cP.full,c.cP.wd⟩,c.md,c.dc,c.bC,⟨λ_=>rfl,λ_=>rfl⟩,c.cN⟩ f j l
def afI:pv.underlying 289=C (.pointer 201):=O
def yn:pv.underlying 170=C .unsafePointer:=O
def afJ:(pv.info? 201).map (λi=>decide (i.size=0))=C q9:=O
def JZ{K:av->ae->o5->Prop}{b:aS}(c:dI i aP s md bC bd t g)(d:aP.mu=bB)(hh:h bB=o0)
  (k:∀γ,gV i s γ->dI i aP (γ.aZ i γ.x #[]) md bC bd t g->K (γ.aZ i γ.x #[]) h (.pointer (C ⟨bB,0,o0⟩))):
  iw pv q9 (dY tM tW os0 Post i) b 289 170 (.pointer (C ⟨bB,0,o0⟩)) s h (K:=⟨K⟩):=by
 obtain rfl:s.mu=bB:=c.cP.mu.trans d;have a:∀γ:av,gV i s γ->K (γ.aZ i γ.x #[]) h (.pointer (C (muA s.mu))):=λγ aI=>k γ aI (c.aZ aI (c.rel aI).md (c.rel aI).dc qO);exact afF c.w afI yn afJ hh a
def afK{K:eM->Env->List tc->av->ae->Prop}(d:aP.mu=bB)(hh:h bB=o0)(a:dI i aP s .own 1 bd q9 g)(e0:e 0=.pointer (C ⟨bB,0,o0⟩))
  (k:∀e c h' v,yl i aP bd g h c h' v->K .cx e [] c h'):
  cB pv q9 (dY tM tW os0 Post i) 139 (fE 172) Dp K e [] s h:=by
 simp only[aO,seval,adf,ade];refine Al a.w (.inr rfl) kX λγ aI=> ?_;have hc:=a.aZ (evs:=#[⟨.mark .enable,q9,J⟩]) aI (x':=γ.x) (a.rel aI).md (a.rel aI).dc JY;simp only[aO,seval,adb,e0];refine JZ (b:=fE 172) hc d hh λj l f=> ?_;refine RO d f rfl λc aT c1 c2 c3 c4=> ?_;exact k _ _ _ (.tuple #[]) ⟨aT,c1,c2,c3,rfl,c4⟩
def afL(c:aP.mu=bB)(hh:h bB=o0)(j:dI i aP s .out 1 (bd+1) q9 g):bo pv q9 (dY tM tW os0 Post i) 172 #[.pointer (C ⟨bB,0,o0⟩)] s h (yl i aP bd g h):=by
 refine bL (n:=139) (args:=[.pointer (C ⟨bB,0,o0⟩)]) Tryz.func172 ad2 rfl Y ad3 ?_;have r:∀e a h' v,yl i aP bd g h a h' v->dT pv ayZ (yl i aP bd g h) 139 e [] a h':=λe a h' v q=>by simp only[dT,jU,results,show ayZ.results=#[]from rfl,aJ];simp[aR];exact q
 simp only[aO,vk,seval,ad1,ad0,adZ,adY,adX,dC,aut,pJ];refine DX (b:=fE 172) j c hh DO λγ aI hc u=> ?_;obtain⟨k,t⟩:=cK.start aI.ok hc.cap hc.md (by rw[hc.dc];omega);refine⟨_,⟨k,cK.JU,awe t,λe=>absurd rfl e,λe=>(by have:=hc.cw.1 e;cases this),λe=>by rw[hc.md]at e;cases e⟩,rfl,rfl,?_⟩;have f:=j.aZ (evs:=#[]) aI (x':=γ.x.mV i (.iu q9) γ.x.L γ.x.K γ.x.S γ.x.W γ.x.M) cK.RD (by rw[cK.RE,hc.dc]) qO;rw[(atz:bd+1- 1=bd)]at f;simp only[aO,seval,adW,adV,adU];refine du (λn e d s h'=>rR i aP bB bd g h n e d s h') (λn e d s h' Jz=> ?_) (m:=6*(γ.aZ i (γ.x.mV i (.iu q9) γ.x.L γ.x.K γ.x.S γ.x.W γ.x.M) #[]).x.cn γ.cap+(4- 0:Int).toNat) ?_
 .refine afH c hh Jz (λe d s h' q=> ?_) λe d s h' m l q=> ?_
  .obtain⟨rfl,rfl,o,p⟩:=q;rw[HI,HJ];simp only[aO,seval];refine afK c hh p o λe a h' v q=> ?_;exact r e a h' v q
  .exact⟨m,l,q⟩
 .exact D8 (aw:=q9) (st:=q9) (wt:=0) (it:=0) (γ:=γ.aZ i (γ.x.mV i (.iu q9) γ.x.L γ.x.K γ.x.S γ.x.W γ.x.M) #[]) k (afv aI.iM hc.w.n0) f (by simp[aL,dC]) (by simp[aL]) (by simp[aL]) (by simp[aL]) (by simp[aL]) (by simp[aL];rfl) (λh=>h) U U
end
end
noncomputable def Ka:Code:=Tryz.f100.body.getD .skip
def afM:=aF Ka (.region _ [_,_,_,_].toArray _) rfl
def afN:Tryz.f100.body=C Ka:=O
def afO:fN 6 Ka=J:=O
noncomputable def Kb:Code:=Tryz.f102.body.getD .skip
def afP:=aF Kb (.region _ [_,_,_,_].toArray _) rfl
def afQ:Tryz.f102.body=C Kb:=O
def afR:fN 6 Kb=J:=O
section
open Go.ConcM (OsLater muBlock MuAt muA msA)
section
variable{tM tW:ta}{os0:eI}{Post:o5->tg->Prop}{i:Nat}{aP s:av}{h:ae}{bd bB:Nat}{g:List cV}
def me{P:tb}{fn:Func}{ai:Type}{n:Nat}{gQ:ai->ae->o5->Prop}{e:Env}{s:ai}{h:ae}(a:fn.results=#[])(p:gQ s h (.tuple #[])):dT P fn gQ n e [] s h:=by simp only[dT,jU,results,a,aJ];simp[aR];exact p
def afS:bz pv 172=J:=O
def afT:bz pv 174=J:=O
def afU:bz pv 143=J:=O
def afV:bz pv 147=J:=O
def afW:bz pv 100=J:=O
def afX:bz pv 102=J:=O
def afY(d:aP.mu=bB)(hh:h bB=o0)(e:dI i aP s .out 0 (bd+1) q9 g):bo pv q9 (dY tM tW os0 Post i) 143 #[.pointer (C ⟨bB,0,o0⟩)] s h (yl i aP bd g h):=by
 refine bL (n:=13) (args:=[.pointer (C ⟨bB,0,o0⟩)]) Tryz.func143 ac9 rfl Y ada ?_;simp only[aO,seval,ac8,ac7,ac6];refine Al e.w (.inl rfl) rO λγ aI=> ?_;have hc:=e.aZ (evs:=#[⟨.mark .disable,q9,J⟩]) aI (x':=γ.x) (e.rel aI).md (e.rel aI).dc RN;simp only[aO,vk,seval,dC,aut,pJ];refine DY hc d Y rfl (λj k a l=> ?_) (λj k l t u m a B=> ?_)
 .have h0:j.x.mu=0:=U
  obtain⟨y,z⟩:=cK.Yn k.ok a.cap a.md (by rw[a.dc];omega) h0;refine⟨_,.own,bd,y,rfl,rfl,cK.JU,z,cK.RD,by rw[cK.RE,a.dc];rfl,λt u m c=> ?_⟩;simp only[aO,seval,Ql,ac5,ac4,ac3];refine Al c.w (.inr rfl) kX λo f=> ?_;have p:=c.aZ (evs:=#[⟨.mark .enable,q9,J⟩]) f (x':=o.x) (c.rel f).md (c.rel f).dc JY;simp only[aO,vk,seval,ac2,dC,aut];refine JZ (b:=fE 143) p d hh λD E r=> ?_;refine RO d r rfl λA aT c1 c2 c3 c4=> ?_;simp only[aO,seval];exact me rfl ⟨aT,c1,c2,c3,rfl,c4⟩
 .simp only[aO,vk,seval,ac1,Ql,dC,aut];refine .inl ⟨afS,(afL d hh a).mono λA h' v q=> ?_⟩;simp only[aO,seval];exact me rfl q
def afZ(a:aP.mu=bB)(hh:h bB=o0)(b:dI i aP s .out 0 (bd+1) q9 g):bo pv q9 (dY tM tW os0 Post i) 100 #[.pointer (C ⟨bB,0,o0⟩)] s h (yl i aP bd g h):=by
 refine bL (n:=6) (args:=[.pointer (C ⟨bB,0,o0⟩)]) Tryz.func100 afN rfl Y afO ?_;simp only[aO,vk,seval,afM,dC,aut,Rj];refine .inl ⟨afU,(afY a hh b).mono λc h' v q=> ?_⟩;exact me rfl q
end
end
section
variable{main:Bool}{ai:Type}{Sy:Sys ai}{s:ai}{h:ae}{b:aS}
def af0:fw pv 264=C .nilFunc:=O
def af1:cu pv 264=C 1:=O
def af2:bz pv 140=J:=O
def af3{ap bp f l p:Nat}{bS:Int}{o:Bool}{x:bX}(c:Nat->ai->Prop)(W:x∈dm)(i:∃o,h ap=C ⟨.cells #[.int .i64 bS] 3 (0,0),o⟩)
  (hb:∃arr o x y m n,h bp=C ⟨.cells arr 119 (0,0),o⟩/\arr[0]? =C (.slice x 2 m)/\arr[1]? =C (.slice y 2 n)) (j:∃o,h f=C ⟨.cells #[.slice (C ⟨p,0,o0⟩) 1 1] 58 (0,0),o⟩)
  (B:pN h p x o) (D:gr 0 [x]<=bS) (X:c 0 s)
  (step:∀n,n<8->∀g h1,h.ar h1->c n g->(bS<gr 0 [x,hY n]->c (n+1) g)/\(gr 0 [x,hY n]<=bS->pM main Sy l x (hY n) g h1 (c (n+1)))):
  bo pv main Sy 140 #[mF l,aY ap,aY bp,aY f] s h λu h' v=>c 8 u/\h.ar h':=by
 refine bL (n:=10) (args:=[mF l,aY ap,aY bp,aY f]) Tryz.func140 aco rfl Y acp ?_;simp only[aO,seval,acn,acm,ack,mF,aY,vJ];intro c1 E;rw[vX (K:=⟨_⟩) af0];intro c2 a;have a6:c2≠c1:=λe=>by subst e;rw[cI]at a;cases a
 have F:Value.nilFunc.cells=#[.nilFunc]:=rfl;have t:(aAd (Fn.yield l) #[] #[]).cells=#[mF l]:=rfl;rw[t]at a;rw[F,t];generalize k:h.put c1 ⟨.cells #[mF l] 264,J⟩=h1 at a ⊢;have G:h.ar h1:=by rw[<- k];exact gW E
 have H:∀(K:ae->Prop),al pv (Instr.storeAt 264 (.pointer (C ⟨c2,0,o0⟩)) (oD ap bp c1 c2)) (h1.put c2 ⟨.cells #[.nilFunc] 264,J⟩) (K:=⟨λ_=>K⟩)=K (h1.put c2 ⟨.cells #[oD ap bp c1 c2] 264,J⟩):=λK=>by rw[xE (K:=⟨_⟩) af1,(atz:((oD ap bp c1 c2).cells.size==1)=J),show(oD ap bp c1 c2).cells.toList=[oD ap bp c1 c2]from rfl,xF];simp only[zP];exact propext ⟨λq=>q.2,λq=>⟨rfl,q⟩⟩
 simp only[aO,seval];rw[(atz:(aAd (Fn.func 141) #[] #[axx (C ⟨ap,0,o0⟩),axx (C ⟨bp,0,o0⟩),axx (C ⟨c1,0,o0⟩),axx (C ⟨c2,0,o0⟩)])=oD ap bp c1 c2),H];generalize r:h1.put c2 ⟨.cells #[oD ap bp c1 c2] 264,J⟩=h2;have d:h.ar h2:=by rw[<- r];exact le_trans G (gW a)
 have w:h2 c2=C ⟨.cells #[oD ap bp c1 c2] 264 (0,0),J⟩:=by rw[<- r,cI]
 have I:h2 c1=C ⟨.cells #[mF l] 264 (0,0),J⟩:=by rw[<- r,bx (λe=>by subst e;rw[<- k,cI]at a;cases a),<- k,cI]
 obtain⟨o2,j⟩:=j;have ab:∀(b:aS) (K:ai->ae->o5->Prop),@eX pv main _ Sy b 264 (.pointer (C ⟨c2,0,o0⟩)) s h2 ⟨K⟩=K s h2 (oD ap bp c1 c2):=λb K=>jK (K:=⟨K⟩) JN (A:=⟨c2,0,o0⟩) w rfl rfl;have kV:∀(b:aS) (K:ai->ae->o5->Prop),@eX pv main _ Sy b 58 (.pointer (C ⟨f,0,o0⟩)) s h2 ⟨K⟩=K s h2 (.slice (C ⟨p,0,o0⟩) 1 1):=λb K=>jK (K:=⟨K⟩) Au (A:=⟨f,0,o0⟩) (d _ _ j) rfl rfl;obtain⟨L,i⟩:=i;obtain⟨arr,ad,M,N,af,bK,P,Q⟩:=hb;have Cz:Ctx h2 ap bp c1 c2 l bS:=⟨⟨L,d _ _ i⟩,⟨arr,ad,M,N,af,bK,d _ _ P,Q⟩,⟨J,I⟩,J,w⟩;simp only[aO,seval,acj,ab,kV];simp only[aO,seval,oD];rw[zJ (K:=⟨_⟩) RB];refine bo.mono (λu h' v ⟨z,le,_⟩=> ?_) (aft c W Cz (d _ _ B) D X (λn R g h3 S=>step n R g h3 (le_trans d S)));exact me rfl ⟨z,le_trans d le⟩
end
section
variable{main:Bool}{ai:Type}{Sy:Sys ai}{s:ai}{h:ae}{b:aS}
def af4:bz pv 99=J:=O
def Kc(ap bp a:Nat):o5:=.func (.func 140) #[] #[aY ap,aY bp,aY a]
def af5{j6:Array o5}{sl:o5}{bS:Int}{p n k:Nat}(hs:sl=.slice (C ⟨p,0,o0⟩) n k):bo pv main Sy 99 #[.agg j6,sl,.int .i64 bS] s h λl h' v=>l=s/\h.ar h'/\∃ap bp c,v=Kc ap bp c/\h' ap=C ⟨.cells #[.int .i64 bS] 3 (0,0),J⟩/\h' bp=C ⟨.cells j6 119 (0,0),J⟩/\h' c=C ⟨.cells #[sl] 58 (0,0),J⟩:=by
 subst hs;refine bL (n:=8) (args:=[.agg j6,.slice (C ⟨p,0,o0⟩) n k,.int .i64 bS]) Tryz.func99 ab9 rfl Y aca ?_;simp only[aO,seval,ab8,ab7,vJ];intro c1 f c2 b c3 a;refine bu Tryz.results99 Y ?_;have g:=gW (x:=(⟨.cells (Value.agg j6).cells 119 (0,0),J⟩:dL)) f;have d:c2≠c1:=λe=>by subst e;rw[cI]at b;cases b
 have i:c3≠c2:=λe=>by subst e;rw[cI]at a;cases a
 have j:c3≠c1:=λe=>by subst e;rw[bx (Ne.symm d),cI]at a;cases a
 refine⟨rfl,le_trans g (le_trans (gW b) (gW a)),c3,c1,c2,by simp[aL,Kc,aY],cI,?_,?_⟩
 .rw[bx (Ne.symm j),bx (Ne.symm d),cI];rfl
 .rw[bx (Ne.symm i),cI];rfl
end
section
open Go.ConcM (OsLater muBlock MuAt muA msA)
section
variable{tM tW:ta}{os0:eI}{Post:o5->tg->Prop}{i:Nat}{aP s:av}{h:ae}{bd bB bC:Nat}{g:List cV}
variable{K:eM->Env->List tc->av->ae->Prop}{e:Env}
def D9(i:Nat)(aP:av)(bd:Nat)(g:List cV)(h0:ae)(s:av)(h:ae)(v:o5):Prop:=dI i aP s .out 0 bd q9 g/\h=h0
def af6{x:Array o5}{K:av->ae->o5->Prop}{gd':ae}{mg':Nat->List cV}(p:aP.mu=bB)(a:dI i aP s .own 0 bd J g)(q:x=#[.pointer (C ⟨bB,0,o0⟩)])
  (l:s.I mg' gd') (m:∀j,j≠i->mg' j=s.cN j) (n:∀b x,gd' b=C x->h b=C x) (r:gd'.kK)
  (k:∀f,dI i aP f .own 0 bd q9 (mg' i)->K f (h.del gd') (.tuple #[])):
  ej pv q9 (dY tM tW os0 Post i) 127 x s h (K:=⟨K⟩):=by
 obtain rfl:s.mu=bB:=a.cP.mu.trans p;subst q;have d:s.cw=C i:=a.cw.2 rfl;refine acZ a.w Re rfl a.bC d gd' (λγ aI=>⟨mg',λj o=>by rw[m j o,aI.rel.Ai d],by rw[aI.rel.I];exact l,λhd=> ?_⟩) n r;have c:=a.rel aI;exact k _ ⟨⟨c.w.pos,c.w.on,c.w.wk,c.w.n0,c.w.aG⟩,c.cap,c.df,⟨c.cP.aG,c.cP.cap,c.cP.n0,c.cP.mu,c.cP.wg,c.cP.on,c.cP.I,c.cP.full,c.cP.wd⟩,c.md,c.dc,hd,⟨(λe=>by cases e),(λe=>by cases e)⟩,rfl⟩
def RP{x:Array o5}{r:List o5}{K:av->ae->o5->Prop}(c:aP.mu=bB)(a:dI i aP s .rel bC bd q9 g)(d:x=⟨.pointer (C ⟨bB,1,o0⟩)::r⟩)
  (k:∀b,dI i aP b .out bC bd q9 g->K b h (.tuple #[])):ej pv q9 (dY tM tW os0 Post i) 202 x s h (K:=⟨K⟩):=by
 obtain rfl:s.mu=bB:=a.cP.mu.trans c;refine acU a.w aeM d a.cap a.md (λγ aI=> ?_) λγ aI=> ?_
 .have:=aI.ok.kI;omega
 .exact k _ (a.aZ aI cK.oE (a.rel aI).dc RJ)
def RQ(i:Nat)(aP:av)(bd:Nat)(g:List cV)(h0:ae)(s:av)(h:ae)(v:o5):Prop:=dI i aP s .out 1 bd q9 g/\h=h0
section
variable{P:tb}{xt:ta}{x y:Operand}[af7:KK o5]{W c:Nat}
def RR(a:W<134217728)(hc:c<7):al P (bN .add xt x y (.int .i32 (8*W+c:Nat)) (.int .i32 1)) h=af7.f (.int .i32 (8*W+(c+1):Nat)) h:=by rw[sJ,(U:((8*W+c:Nat):Int)+1=((8*W+(c+1):Nat):Int)),wrap32 U]
end
structure af8(i:Nat)(aP:av)(bB bd:Nat)(g:List cV)(e:Env)(s:av)(W c p:Nat)(m:aN):Prop where
 e0:e 0=.pointer (C ⟨bB,0,o0⟩)
 e4:e 4=.int .i32 (8*W+c:Nat)
 cur:dI i aP s m 1 bd q9 g
 dW:c<8
 pP:W<100000000
 ga:(m=.out/\(W=0\/c≠0))\/(m=.jT/\W≠0/\c=0/\l9 s p (8*W))
def Kd(i:Nat)(aP:av)(bB bd:Nat)(g:List cV)(h0:ae)(n:Nat)(e:Env)(d:List tc)(s:av)(h:ae):Prop:=d=[]/\h=h0/\∃W c m,af8 i aP bB bd g e s W c n m
def af9{n:Nat}{d:List tc}{h':ae}(q:aP.mu=bB)(hh:h bB=o0)(Jz:Kd i aP bB bd g h n e d s h')
  (p:∀e r,dI i aP r .out 1 bd q9 g->K .ret e [] r h) (w:∀e d s h' m,m<n->Kd i aP bB bd g h m e d s h'->K .cx e d s h'):
  cB pv q9 (dY tM tW os0 Post i) 43 (fE 174) DK K e d s h':=by
 obtain⟨rfl,rfl,W,c,m,I⟩:=Jz;have e0:=I.e0;have t:=I.e4;have H:=I.dW;have b4:=I.pP;have y:W<134217728:=U
 rcases I.ga with⟨rfl,z⟩|⟨rfl,o,rfl,N⟩
 .by_cases o:W=0
  .have hb:(((W:Nat):Int)==0)=J:=by simpa using o
   simp only[aO,vk,seval,Jv,Ju,Jt,Js,lK,seval,H,t,hb];exact p _ _ I.cur
  .have hb:(((W:Nat):Int)==0)=q9:=by simpa using o
   have bk:c≠0:=U
   have h7:c=1\/c=2\/c=3\/c=4\/c=5\/c=6\/c=7:=U
   rcases h7 with rfl|rfl|rfl|rfl|rfl|rfl|rfl<;>simp only[aO,seval,Jv,Ju,Jt,Js,lK,bne,seval,y,t,hb]<;>exact p _ _ I.cur
 .have hb:(((W:Nat):Int)==0)=q9:=by simpa using o
  have P:0<W:=U
  have Q:W- 1<134217728:=U
  simp only[aO,seval,Jv,Ju,aei,aeh,aeg,Jt,Js,lK,bne,seval,y,Q,P,e0,t,hb,pJ];refine DY I.cur q Y rfl (λγ aI hc R=> ?_) (λγ aI R B D X hc ab=> ?_)
  .have bl:γ.x.mu=8*W:=U
   obtain⟨q1,q2,q3⟩:=aI.ok.dec (aI.ok.te aI.iM hc.df);have ad:W=γ.x.W:=U
   obtain⟨u,v⟩:=cK.wake aI.ok hc.cap hc.md U U U U;refine⟨_,.rel,bd,u,?_,rfl,cK.pO,v,cK.oE,hc.dc,λB D X k=> ?_⟩
   .show((0+2*1+4*0+8*(γ.x.W- 1):Nat):Int)=_;rw[<- ad];congr 1;show _=8*(W- 1)+2;omega
   .simp only[aO,seval,QW,aef,e0,JD];refine RP q k rfl λr af=> ?_;simp only[aO,seval];exact p _ _ af
  .have ag:=ab n (8*W) N;have az:B.x.mu≠8*W:=by rw[D];omega
   have a6:=ag.2 az;simp only[aO,seval,aee,QW,e0,pJ];refine DX (b:=fE 174) hc q hh aeN λf a j a7=> ?_;have A:f.x.cn f.cap<n:=by have h1:=a.rel.cn;have h2:=a.rel.cap;rw[h2];exact avQ h1 a6
   obtain⟨l,c2,E,F,G,w4,w5⟩:=D7 a.ok (a.ok.te a.iM j.df);have bt:=a.ok.fv;have b0:=a.ok.k1;have b3:=a.ok.s1;by_cases z:l=0\/c2≠0
   .obtain⟨u,v⟩:=cK.quit a.ok j.cap j.md U;refine⟨_,⟨u,cK.pO,awe v,λe=>absurd rfl e,λe=>(by have:=j.cw.1 e;cases this),λe=>by rw[j.md]at e;cases e⟩,rfl,rfl,?_⟩;have k:=hc.aZ (evs:=#[]) a (x':=f.x.go i .out f.x.L f.x.K f.x.S f.x.W f.x.M) cK.oE j.dc qO;exact w _ _ _ _ _ A ⟨rfl,rfl,l,c2,.out,by simp[aL,eU,e0],by simp[aL,eU,E],k,F,G,.inl ⟨rfl,z⟩⟩
   .have a8:c2=0:=U
    have ba:l≠0:=U
    refine⟨f.x,.refl a.ok a7,rfl,rfl,?_⟩;have k:=hc.aZ (evs:=#[]) a (x':=f.x) j.md j.dc qO;exact w _ _ _ _ _ A ⟨rfl,rfl,l,c2,.jT,by simp[aL,eU,e0],by simp[aL,eU,E],k,F,G,.inr ⟨rfl,ba,a8,vr _,λh=>absurd (U:f.x.mu=8*l) h⟩⟩
def aga{W c:Nat}(o:aP.mu=bB)(hh:h bB=o0)(v:W<100000000)(hc:c<8)(j:c &&& 1=0)
  (hs:(∃m,c &&& 4=0/\dI i aP s m 1 bd q9 g/\((m=.out/\(W=0\/c≠0))\/(m=.jT/\W≠0/\c=0/\l9 s (s.x.cn s.cap) (8*W))))\/(c &&& 4≠0/\dI i aP s .rel 1 bd q9 g)):
  bo pv q9 (dY tM tW os0 Post i) 174 #[.pointer (C ⟨bB,0,o0⟩),.int .i32 (8*W+c:Nat)] s h (RQ i aP bd g h):=by
 have k:∀c<8,c &&& 1=0->c=0\/c=2\/c=4\/c=6:=aty
 have l:W<134217728:=U
 refine bL (n:=43) (args:=[.pointer (C ⟨bB,0,o0⟩),.int .i32 (8*W+c:Nat)]) Tryz.func174 aeo rfl Y aep ?_;rcases hs with⟨m,f,a,p⟩|⟨f,a⟩
 .have b:c=0\/c=2:=by rcases k c hc j with rfl|rfl|rfl|rfl<;>first|(left;rfl)|(right;rfl)|exact absurd f aty
  have key:∀e,e 0=.pointer (C ⟨bB,0,o0⟩)->e 4=.int .i32 (8*W+c:Nat)->cB pv q9 (dY tM tW os0 Post i) 43 (fE 174) DJ (λx=>match x with|.ext _=>λ_ _ _ _=>False|_=>dT pv Tryz.f174 (RQ i aP bd g h) 43) e [] s h:=λe h0 r=>by simp only[aek,aej];refine du (λn e d s h'=>Kd i aP bB bd g h n e d s h') (λn e d s h' Jz=> ?_) (m:=s.x.cn s.cap) ⟨rfl,rfl,W,c,m,h0,r,a,hc,v,p⟩;refine af9 o hh Jz (λe w q=> ?_) λe d s h' m t q=>⟨m,t,q⟩;rw[PD,PF];exact me rfl ⟨q,rfl⟩
  rcases b with rfl|rfl<;>simp only[aO,vk,seval,Rb,Q5,QZ,ael,Ra,Q6,lK,seval,RR,l,dC,aut,aw6]<;>exact key _ (by simp[aL,dC]) (by simp[aL])
 .have b:c=4\/c=6:=by rcases k c hc j with rfl|rfl|rfl|rfl<;>first|(left;rfl)|(right;rfl)|exact absurd rfl f
  rcases b with rfl|rfl<;>simp only[aO,vk,seval,Rb,Q5,QZ,aem,Ra,Q6,lK,seval,RR,l,dC,aut,aw6,JD]<;>(refine RP o a rfl λw u=> ?_;exact me rfl ⟨u,rfl⟩)
end
end
section
open Go.ConcM (OsLater muBlock MuAt muA msA)
section
variable{tM tW:ta}{os0:eI}{Post:o5->tg->Prop}{i:Nat}{aP s:av}{h:ae}{bd bB bC:Nat}{g:List cV}
def agb{gd':ae}{mg':Nat->List cV}(y:aP.mu=bB)(hh:h bB=o0)(Q:dI i aP s .own 0 bd J g)
  (hI:s.I mg' gd') (a7:∀j,j≠i->mg' j=s.cN j) (a8:∀b x,gd' b=C x->h b=C x) (bn:gd'.kK):
  bo pv q9 (dY tM tW os0 Post i) 147 #[.pointer (C ⟨bB,0,o0⟩)] s h (D9 i aP bd (mg' i) (h.del gd')):=by
 refine bL (n:=21) (args:=[.pointer (C ⟨bB,0,o0⟩)]) Tryz.func147 aec rfl Y aed ?_;simp only[aO,vk,seval,aeb,aea,ad9,dC,aut,pJ];have ba:s.cw=C i:=Q.cw.2 rfl;refine JV (b:=fE 147) Q y hh aeO λγ aI hc=> ?_;have R:(γ.aZ i γ.x #[]).I=s.I:=aI.rel.I;have X:(γ.aZ i γ.x #[]).cN=s.cN:=aI.rel.Ai ba;have cU:(γ.aZ i γ.x #[]).cw=C i:=hc.cw.2 rfl;generalize γ.aZ i γ.x #[]=ca at hc R X cU ⊢;simp only[aO,vk,seval,ad8,dC,aut];refine JZ (b:=fE 147) hc y hh λu N P=> ?_;have e3:(u.aZ i u.x #[]).I=s.I:=N.rel.I.trans R;have e4:(u.aZ i u.x #[]).cN=s.cN:=(N.rel.Ai cU).trans X;generalize u.aZ i u.x #[]=s2 at P e3 e4 ⊢;refine af6 (gd':=gd') (mg':=mg') y P rfl (by rw[e3];exact hI) (λj hj=>by rw[e4];exact a7 j hj) a8 bn λfe A=> ?_;have bh:(h.del gd') bB=o0:=by unfold ae.del;split<;>simp_all
 simp only[aO,seval,ad7];refine Al A.w (.inl rfl) rO λD E=> ?_;have t:=A.aZ (evs:=#[⟨.mark .disable,q9,J⟩]) E (x':=D.x) (A.rel E).md (A.rel E).dc RN;generalize D.aZ i D.x #[⟨.mark .disable,q9,J⟩]=p at t ⊢;simp only[aO,vk,seval,ad6,dC,aut,pJ];obtain rfl:p.mu=bB:=t.cP.mu.trans y;have af:∀e k,dI i aP k .out 1 bd q9 (mg' i)->cB pv q9 (dY tM tW os0 Post i) 21 (fE 147) Jf (λx=>match x with|.ext _=>λ_ _ _ _=>False|_=>dT pv ay0 (D9 i aP bd (mg' i) (h.del gd')) 21) e [] k (h.del gd'):=λe k l=>by simp only[aO,seval,ad4];refine Al l.w (.inr rfl) kX λγ aI=> ?_;exact me rfl ⟨l.aZ (evs:=#[⟨.mark .enable,q9,J⟩]) aI (x':=γ.x) (l.rel aI).md (l.rel aI).dc JY,rfl⟩
 have F:∀(e:Env) k W c,e 0=.pointer (C ⟨p.mu,0,o0⟩)->e 2=.int .i32 (8*W+c:Nat)->W<100000000->c<8->c &&& 1=0->((∃m,c &&& 4=0/\dI i aP k m 1 bd q9 (mg' i)/\((m=.out/\(W=0\/c≠0))\/(m=.jT/\W≠0/\c=0/\l9 k (k.x.cn k.cap) (8*W))))\/(c &&& 4≠0/\dI i aP k .rel 1 bd q9 (mg' i)))->8*W+c≠0->
   cB pv q9 (dY tM tW os0 Post i) 21 (fE 147) Ar (λx=>match x with|.ext _=>λ_ _ _ _=>False|_=>dT pv ay0 (D9 i aP bd (mg' i) (h.del gd')) 21) e [] k (h.del gd'):=λe k W c h0 h2 hW hc bk G bs=>by
  have hb:((((8*W+c:Nat)):Int) != 0)=J:=by simp only[bne_iff_ne,ne_eq];omega
  simp only[aO,seval,QS,QR,QQ,ad5,h0,h2,hb];refine .inl ⟨afT,(aga y bh hW hc bk G).mono λk h' v q=> ?_⟩;obtain⟨q1,rfl⟩:=q;simp only[aO,seval];exact af _ _ q1
 refine Qf t.w Rd λa f bt=> ?_;have d:=t.rel f;obtain⟨W,c,w1,w2,L,w4,w5⟩:=D7 f.ok (f.ok.te f.iM d.df);have b3:=f.ok.kI;have b4:=f.ok.te f.iM d.df;have b5:=f.ok.fv;have b6:=f.ok.k1;have b8:=f.ok.s1;have H:∀m:Nat,m<800000008->0<m->((m- 1:Nat):Int)=awh.wrap ((m:Nat)+ -1):=λm h1 h2=>by rw[(U:((m:Nat):Int)+ -1=((m- 1:Nat):Int))];exact(wrap32 U).symm
 rcases(U:a.x.S=0\/a.x.S=1)with B|B
 .by_cases G:a.x.W=0\/a.x.K=1
  .obtain⟨z,r,r3⟩:=cK.Ys f.ok d.cap d.md B G;have o:(a.x.go i .out 0 a.x.K a.x.S a.x.W a.x.M).mu=a.x.mu- 1:=by unfold cK.mu;simp only[cK.go];omega
   have l:=t.aZ (evs:=#[⟨.cell (muA p.mu),q9,J⟩,⟨.cell (muA p.mu),J,J⟩]) f (x':=a.x.go i .out 0 a.x.K a.x.S a.x.W a.x.M) cK.oE d.dc Az;refine⟨_,⟨z,cK.pO,awe r,λ_=>r,λe=>(by have:=d.cw.1 e;cases this),λe=>by rw[d.md]at e;cases e⟩,rfl,by rw[o];exact H _ U U,?_⟩;rw[o];simp only[aO,seval];by_cases hz:a.x.mu- 1=0
   .have hb:(((a.x.mu- 1:Nat):Int) != 0)=q9:=by rw[hz];rfl
    simp only[aO,seval,QS,QR,QQ,hb];exact af _ _ l
   .refine F _ _ W (2*a.x.K) (by simp[aL,dC]) (by simp only[aL,↓reduceIte];congr 2;omega) L U ?_ (.inl ⟨.out,?_,l,.inl ⟨rfl,U⟩⟩) U
    .rcases(U:a.x.K=0\/a.x.K=1)with e|e<;>rw[e]<;>rfl
    .rcases(U:a.x.K=0\/a.x.K=1)with e|e<;>rw[e]<;>rfl
  .have b9:a.x.K=0:=U
   obtain⟨z,r,r3⟩:=cK.Yt f.ok d.cap d.md B;have o:(a.x.go i .jT 0 a.x.K a.x.S a.x.W a.x.M).mu=a.x.mu- 1:=by unfold cK.mu;simp only[cK.go];omega
   have l:=t.aZ (evs:=#[⟨.cell (muA p.mu),q9,J⟩,⟨.cell (muA p.mu),J,J⟩]) f (x':=a.x.go i .jT 0 a.x.K a.x.S a.x.W a.x.M) cK.oE d.dc Az;refine⟨_,⟨z,cK.pO,awe r,λ_=>r,λe=>(by have:=d.cw.1 e;cases this),λe=>by rw[d.md]at e;cases e⟩,rfl,by rw[o];exact H _ U U,?_⟩;rw[o];simp only[aO,seval];refine F _ _ W 0 (by simp[aL,dC]) (by simp only[aL,↓reduceIte];congr 2;omega) L U rfl (.inl ⟨.jT,rfl,l,.inr ⟨rfl,U,rfl,vr _,λh=>absurd (by show(a.x.go i .jT 0 a.x.K a.x.S a.x.W a.x.M).mu=_;rw[o];omega) h⟩⟩) U
 .obtain⟨z,r,r3⟩:=cK.Yr f.ok d.cap d.md B;have o:(a.x.go i .rel 0 a.x.K a.x.S a.x.W a.x.M).mu=a.x.mu- 1:=by unfold cK.mu;simp only[cK.go];omega
  have l:=t.aZ (evs:=#[⟨.cell (muA p.mu),q9,J⟩,⟨.cell (muA p.mu),J,J⟩]) f (x':=a.x.go i .rel 0 a.x.K a.x.S a.x.W a.x.M) cK.oE d.dc Az;refine⟨_,⟨z,cK.pO,awe r,λ_=>r,λe=>(by have:=d.cw.1 e;cases this),λe=>by rw[d.md]at e;cases e⟩,rfl,by rw[o];exact H _ U U,?_⟩;rw[o];simp only[aO,seval];refine F _ _ W (2*a.x.K+4) (by simp[aL,dC]) (by simp only[aL,↓reduceIte];congr 2;omega) L U ?_ (.inr ⟨?_,l⟩) U
  .rcases(U:a.x.K=0\/a.x.K=1)with e|e<;>rw[e]<;>rfl
  .rcases(U:a.x.K=0\/a.x.K=1)with e|e<;>rw[e]<;>decide
def agc{gd':ae}{mg':Nat->List cV}(e:aP.mu=bB)(hh:h bB=o0)(f:dI i aP s .own 0 bd J g)
  (a:s.I mg' gd') (c:∀j,j≠i->mg' j=s.cN j) (d:∀b x,gd' b=C x->h b=C x) (k:gd'.kK):
  bo pv q9 (dY tM tW os0 Post i) 102 #[.pointer (C ⟨bB,0,o0⟩)] s h (D9 i aP bd (mg' i) (h.del gd')):=by
 refine bL (n:=6) (args:=[.pointer (C ⟨bB,0,o0⟩)]) Tryz.func102 afQ rfl Y afR ?_;simp only[aO,vk,seval,afP,dC,aut,Rj];refine .inl ⟨afV,(agb e hh f a c d k).mono λl h' v q=> ?_⟩;exact me rfl q
end
end
end
end Go.Nk
