/- Part Pas of the proof of ButtTexts: lemmas. -/
import Derived.Test.YthgephlghkjiaaaGreatDoorPar
set_option maxRecDepth 100000
set_option maxHeartbeats 4000000
set_option linter.all false
namespace Go.Nk
noncomputable section
open Go Go.Conc Go.Proofs
open Bool renaming false->q9,false_eq_true->N2,not_true->avO,not_false->awZ,and_true->awH,and_false->auV,true->J,not_eq_true->axr,false_and->auH
open Go renaming Value->o5,Operand->su
open Go.Op renaming equalIn->at1
open Go.Proofs.Tryz renaming prog->pv,results31->aAs,results46->aAt
open List renaming forIn_toArray->ay9,forIn_cons->axR,forIn_nil->aAq,getElem?_cons_zero->au8,getElem?_cons_succ->avl,length_map->atJ,take_add_one->atC,take_length->N3,getElem_mem->N0,mem_append->D3,mem_of_mem_take->aza,map_take->aAu,take_sublist->aB2,map_append->auu,nodup_append->aB3,mem_map_of_mem->aB4,take_length_add_append->aAv,mem_singleton->auJ,take_of_length_le->aw4
open Nat renaming lt_or_ge->vy
open Option renaming none->o0,some->C
section
variable{h:ae}
def Ma{d:Nat}{a b:Int}{Q:Bool->ae->Prop}:aH pv (at1 (d+1) 3 (.int .i64 a) (.int .i64 b)) h Q=Q (a==b) h:=by rw[at1];simp only[aJ,c0,Tryz.underlying3,if_true,aR]
def TJ{d:Nat}{a b:List UInt8}{Q:Bool->ae->Prop}:aH pv (at1 (d+1) 9 (au a) (au b)) h Q=Q (a==b) h:=by rw[at1];simp only[aJ,c0,Tryz.underlying9,aR];congr 1;show((⟨a⟩:Array UInt8)==⟨b⟩)=(a==b);simp
def alB:pv.stoodInHeld 51=q9:=O
def TK{cs:List o5}{o:Nat}(Q:o5->ae->Prop):aH pv (part 9 ⟨cs⟩ o) h Q=@tZ cs[o]? ⟨λv=>Q v h⟩:=by exact z8 (P:=pv) (h:=h) (t:=9) (cs:=cs) (o:=o) Q o0 O
def Mb{cs:List o5}{o:Nat}(Q:o5->ae->Prop):aH pv (part 3 ⟨cs⟩ o) h Q=@tZ cs[o]? ⟨λv=>Q v h⟩:=by exact z8 (P:=pv) (h:=h) (t:=3) (cs:=cs) (o:=o) Q o0 O
def alC{d:Nat}{a b:List UInt8}{x y z x' e c:Int}{Q:Bool->ae->Prop}:aH pv (at1 (d+2) 51 (.agg #[au a,bO x,bO y,bO z]) (.agg #[au b,bO x',bO e,bO c])) h Q=Q (a==b&&(x==x'&&(y==e&&z==c))) h:=by rw[at1];simp only[aJ,c0,Tryz.underlying51,mq,alB,N2,if_false,ay9,axR,aAq];cases f:(a==b)<;>cases j:(x==x')<;>cases g:(y==e)<;>cases i:(z==c)<;>simp only[aJ,TK,Mb,bO,TJ,Ma,f,j,g,i,au8,avl,Ce,aR,avO,awZ,if_true,if_false,N2,awH,auV,ne_eq,String.reduceEq,not_false_eq_true]
def alD:pv.stoodInHeld 53=q9:=O
def alE{d:Nat}{a b:List UInt8}{x y z x' e c:Int}{Q:Bool->ae->Prop}:aH pv (at1 (d+2) 53 (.agg #[au a,bO x,bO y,bO z]) (.agg #[au b,bO x',bO e,bO c])) h Q=Q (a==b&&(x==x'&&(y==e&&z==c))) h:=by rw[at1];simp only[aJ,c0,Tryz.underlying53,mq,alD,N2,if_false,ay9,axR,aAq];cases f:(a==b)<;>cases j:(x==x')<;>cases g:(y==e)<;>cases i:(z==c)<;>simp only[aJ,TK,Mb,bO,TJ,Ma,f,j,g,i,au8,avl,Ce,aR,avO,awZ,if_true,if_false,N2,awH,auV,ne_eq,String.reduceEq,not_false_eq_true]
def alF:pv.stoodInHeld 63=q9:=O
def alG{d:Nat}{p q:Int×Int}{Q:Bool->ae->Prop}:aH pv (at1 (d+2) 63 (gk p) (gk q)) h Q=Q (p.1==q.1&&p.2==q.2) h:=by unfold gk;rw[at1];simp only[aJ,c0,Tryz.underlying63,mq,alF,N2,if_false,ay9,axR,aAq];cases b:(p.1==q.1)<;>cases a:(p.2==q.2)<;>simp only[aJ,Mb,Ma,b,a,au8,avl,Ce,aR,avO,awZ,if_true,if_false,N2,awH,auV,ne_eq,String.reduceEq,not_false_eq_true]
def Mc{P:Program}{t:TypeId}(c:P.eqGuardType P.depth t=q9){x y:su}{a b:Array o5}{r:Bool}(key:∀Q:Bool->ae->Prop,aH P (at1 (9998+2) t (.agg a) (.agg b)) h Q=Q r h)[K:KK o5]:al P (bN .neq t x y (.agg a) (.agg b)) h=K.f (.bool (!r)) h:=by
 have aT:∀(Q:Unit->ae->Prop),aH P (eqGuard .neq t x y (.agg a) (.agg b)) h Q=Q () h:=λQ=>by unfold eqGuard;simp[aR,aJ,mq,c]
 have d:∀Q:Bool->ae->Prop,aH P (Op.equal t (.agg a) (.agg b)) h Q=Q r h:=key;simp only[al,bN,aJ,aT,binOp];simp only[d,aR]
def fU.v(s:fU):o5:=.agg #[au s.name,bO s.cX,bO s.size,bO s.gS]
def fV.v(s:fV):o5:=.agg #[au s.name,bO s.size,bO s.ff,bO s.cX]
def wC(a b:fU):Bool:=a.name==b.name&&(a.cX==b.cX&&(a.size==b.size&&a.gS==b.gS))
def wD(a b:fV):Bool:=a.name==b.name&&(a.size==b.size&&(a.ff==b.ff&&a.cX==b.cX))
def wE(p q:Int×Int):Bool:=p.1==q.1&&p.2==q.2
def alH{x y:su}{a b:fU}[K:KK o5]:al pv (bN .neq 51 x y a.v b.v) h=K.f (.bool (!wC a b)) h:=Mc O λQ=>alC
def alI{x y:su}{a b:fV}[K:KK o5]:al pv (bN .neq 53 x y a.v b.v) h=K.f (.bool (!wD a b)) h:=Mc O λQ=>alE
def alJ{x y:su}{a b:Int×Int}[K:KK o5]:al pv (bN .neq 63 x y (gk a) (gk b)) h=K.f (.bool (!wE a b)) h:=Mc O λQ=>alG
def TL{a b:fU}:wC a b=J↔a=b:=by cases a;cases b;simp[wC]
def TM{a b:fV}:wD a b=J↔a=b:=by cases a;cases b;simp[wD]
def TN{a b:Int×Int}:wE a b=J↔a=b:=by cases a;cases b;simp[wE]
end
section
variable{main:Bool}{ai:Type}{S:Sys ai}{s:ai}{h:ae}
def alK:bz pv 31=J:=O
def alL{v w:o5}{l m:List Int}(F:ig h v l)(hw:ig h w m)(hl:l.length<=1000):bo pv main S 31 #[v,w] s h λg h' x=>g=s/\h.ar h'/\x=.bool (l==m):=by
 refine bL (args:=[v,w]) Tryz.func31 (by delta Tryz.f31;rfl) Tryz.ntmps31 Y O ?_;obtain⟨b,o,n,c,rfl,z,hb⟩:=F;obtain⟨bG,o',n',bJ,rfl,A,G⟩:=hw;simp only[atJ]at z A;subst z;subst A;simp only[ah,seval];by_cases p:l.length=m.length
 .have e:((l.length:Int) != m.length)=q9:=by simp[p]
  simp only[ah,seval,e];refine du (I:=λk e d g h'=>∃i:Nat,k=l.length- i/\i<=l.length/\e 0=.slice b l.length c/\e 1=.slice bG m.length bJ/\e 5=.int .i64 i/\d=[]/\g=s/\h.ar h'/\l.take i=m.take i) (λk e d g h' H=> ?_) (m:=l.length) ⟨0,Y,U,atA,atA,atA,rfl,rfl,λ_ _ q=>q,Y⟩;obtain⟨i,rfl,hi,e0,E,u,rfl,rfl,a,r⟩:=H;simp only[ah,seval,e0,u];rcases vy i l.length with hc|hc
  .simp only[ah,seval,decide_eq_true (U:(i:Int)<l.length),fI];obtain⟨mb,rfl,arr,q,f,w,hm,K⟩:=hb.resolve_left U;obtain⟨L,rfl,M,q',f',w',N,P⟩:=G.resolve_left U;have B:i<m.length:=U
   have g1:arr[o+i]? =C (.int .i64 l[i]):=by simpa[bO]using K i [bO l[i]] (by simp[hc]) 0 _ rfl
   have g2:M[o'+i]? =C (.int .i64 m[i]):=by simpa[bO]using P i [bO m[i]] (by simp[B]) 0 _ rfl
   have Q:∀h,h'.ar h->h mb=_:=λh le=>le _ _ (a _ _ hm);have R:∀h,h'.ar h->h L=_:=λh le=>le _ _ (a _ _ N);have bd:decide ((i:Int)<l.length)=J:=atB
   have W:decide ((i:Int)<m.length)=J:=atB
   intro t;refine kv eR O O ?_ t
   repeat refine gF (λh1 le=>by simp only[ah,seval,cJ,le,e0,E,u,Q,R,g1,g2,bd,W];exact⟨λ_ _ q=>q,rfl⟩) ?_
   rw[jN];intro h2 D;by_cases j:l[i]=m[i]
   .have y:(l[i] != m[i])=q9:=by simp[j]
    simp only[ah,seval,y,u];refine⟨_,?_,i+1,rfl,U,by simp[e0],by simp[E],by simp[cq (x:=(i:Int)+1) U U],λ_ _ q=>D _ _ (a _ _ q),?_⟩
    .omega
    .rw[atC,atC,r];simp[hc,B,j]
   .have y:(l[i] != m[i])=J:=by simpa using j
    simp only[ah,seval,y];refine bu aAs Y ⟨rfl,λ_ _ q=>D _ _ (a _ _ q),?_⟩;have:(l==m)=q9:=by rw[beq_eq_false_iff_ne];rintro rfl;exact j rfl
    simp[ak,this]
  .simp only[ah,seval,decide_eq_false (U:¬(i:Int)<l.length)];have X:i=l.length:=U
   rw[X,N3,p,N3]at r;exact bu aAs Y ⟨rfl,a,by simp[ak,r]⟩
 .have e:((l.length:Int) != m.length)=J:=atB
  simp only[ah,seval,e];have:(l==m)=q9:=by rw[beq_eq_false_iff_ne];rintro rfl;exact p rfl
  exact bu aAs Y ⟨rfl,λ_ _ q=>q,by simp[ak,this]⟩
def alM:bz pv 46=J:=O
def alN{x y:su}{a b:Int×Int}[K:KK o5]:al pv (bN .neq 63 x y (.agg #[.int .i64 a.1,.int .i64 a.2]) (.agg #[.int .i64 b.1,.int .i64 b.2])) h=K.f (.bool (!wE a b)) h:=alJ
def alO{v w:o5}{l m:List (Int×Int)}(L:rW h v l)(hw:rW h w m)(hl:l.length<=1000):bo pv main S 46 #[v,w] s h λg h' x=>g=s/\h.ar h'/\x=.bool (l==m):=by
 refine bL (args:=[v,w]) Tryz.func46 (by delta Tryz.f46;rfl) Tryz.ntmps46 Y O ?_;obtain⟨b,o,n,c,rfl,z,hb⟩:=L;obtain⟨bG,F,n',bJ,rfl,A,M⟩:=hw;simp only[atJ]at z A;subst z;subst A;simp only[ah,seval];by_cases p:l.length=m.length
 .have e:((l.length:Int) != m.length)=q9:=by simp[p]
  simp only[ah,seval,e];refine du (I:=λk e d g h'=>∃i:Nat,k=l.length- i/\i<=l.length/\e 0=.slice b l.length c/\e 1=.slice bG m.length bJ/\e 5=.int .i64 i/\d=[]/\g=s/\h.ar h'/\l.take i=m.take i) (λk e d g h' N=> ?_) (m:=l.length) ⟨0,Y,U,atA,atA,atA,rfl,rfl,λ_ _ q=>q,Y⟩;obtain⟨i,rfl,hi,e0,G,u,rfl,rfl,a,r⟩:=N;simp only[ah,seval,e0,u];rcases vy i l.length with hc|hc
  .simp only[ah,seval,decide_eq_true (U:(i:Int)<l.length),fI];obtain⟨mb,rfl,arr,q,f,w,hm,P⟩:=hb.resolve_left U;obtain⟨Q,rfl,B,q',f',w',R,W⟩:=M.resolve_left U;have D:i<m.length:=U
   have H:=P i [bO l[i].1,bO l[i].2] (by simp[hc]);have K:=W i [bO m[i].1,bO m[i].2] (by simp[D]);have g1:arr[o+i*2]? =C (.int .i64 l[i].1):=H 0 _ rfl;have g2:B[F+i*2]? =C (.int .i64 m[i].1):=K 0 _ rfl;have g3:arr[o+i*2+1]? =C (.int .i64 l[i].2):=H 1 _ rfl;have g4:B[F+i*2+1]? =C (.int .i64 m[i].2):=K 1 _ rfl;have X:∀h,h'.ar h->h mb=_:=λh le=>le _ _ (a _ _ hm);have ab:∀h,h'.ar h->h Q=_:=λh le=>le _ _ (a _ _ R);have bd:decide ((i:Int)<l.length)=J:=atB
   have ad:decide ((i:Int)<m.length)=J:=atB
   intro t;refine kv eR O O ?_ t
   repeat refine gF (λh1 le=>by simp only[ah,seval,cJ,le,e0,G,u,X,ab,g1,g2,g3,g4,bd,ad,alN];exact⟨λ_ _ q=>q,rfl⟩) ?_
   rw[jN];intro h2 E;by_cases j:l[i]=m[i]
   .have y:(!wE l[i] m[i])=q9:=by simp[TN.2 j]
    simp only[ah,seval,y,u];refine⟨_,?_,i+1,rfl,U,by simp[e0],by simp[G],by simp[cq (x:=(i:Int)+1) U U],λ_ _ q=>E _ _ (a _ _ q),?_⟩
    .omega
    .rw[atC,atC,r];simp[hc,D,j]
   .have y:(!wE l[i] m[i])=J:=by
     have:wE l[i] m[i]=q9:=by rw[<- axr,TN];exact j
     simp[this]
    simp only[ah,seval,y];refine bu aAt Y ⟨rfl,λ_ _ q=>E _ _ (a _ _ q),?_⟩;have:(l==m)=q9:=by rw[beq_eq_false_iff_ne];rintro rfl;exact j rfl
    simp[ak,this]
  .simp only[ah,seval,decide_eq_false (U:¬(i:Int)<l.length)];have af:i=l.length:=U
   rw[af,N3,p,N3]at r;exact bu aAt Y ⟨rfl,a,by simp[ak,r]⟩
 .have e:((l.length:Int) != m.length)=J:=atB
  simp only[ah,seval,e];have:(l==m)=q9:=by rw[beq_eq_false_iff_ne];rintro rfl;exact p rfl
  exact bu aAt Y ⟨rfl,λ_ _ q=>q,by simp[ak,this]⟩
end
section
variable{main:Bool}{ai:Type}{S:Sys ai}{s:ai}{h:ae}
def alP:bz pv 12=J:=O
def ae.ar.cO(h:ae):h.ar h:=λ_ _ q=>q
def ae.ar.ay{h h' a:ae}(p:h.ar h')(q:h'.ar a):h.ar a:=λb x e=>q b x (p b x e)
def dE.one{v:o5}{vs:List o5}(q:dE h v 1 (vs.map λx=>[x])):∃b o c,v=.slice b vs.length c/\(vs.length=0\/∃m,b=C ⟨m,o,o0⟩/\∃arr q f w,h m=C ⟨.cells arr q f,w⟩/\∀i (hi:i<vs.length),arr[o+i]? =C vs[i]):=by obtain⟨b,o,n,c,rfl,a,hb⟩:=q;simp only[atJ]at a;subst a;refine⟨b,o,c,rfl,hb.imp id λ⟨m,e,arr,q,f,w,g,d⟩=>⟨m,e,arr,q,f,w,g,λi hi=> ?_⟩⟩;have:=d i [vs[i]] (by simp[hi]) 0 vs[i] rfl;simpa using this
def alQ{v w:o5}{x y:bY}(hv:k7 h v x)(hw:k7 h w y)(hl:x.b2.length<=1000/\x.cf.length<=1000)(hi:(∀l∈x.b2,l.length<=1000)/\∀l∈x.cf,l.length<=1000):bo pv main S 12 #[v,w] s h λF h' z=>F=s/\h.ar h'/\z=.bool (x.cW==y.cW&&(x.cS==y.cS&&(x.b2==y.b2&&x.cf==y.cf))):=by
 refine bL (args:=[v,w]) Tryz.func12 (by delta Tryz.f12;rfl) Tryz.ntmps12 Y O ?_;obtain⟨v1,v2,rfl,⟨g,cc,b4⟩,j,ck,b5⟩:=hv;obtain⟨w1,w2,rfl,⟨N,cl,b6⟩,P,cm,b8⟩:=hw;obtain⟨p,o,c,rfl,hp⟩:=cc.one;obtain⟨p',o',bJ,rfl,cM⟩:=cl.one;obtain⟨r,u,d,rfl,hr⟩:=ck.one;obtain⟨r',u',d',rfl,dd⟩:=cm.one;simp only[ah,seval,bO];intro c1 h1 de e1 c2 h2 b9 e2;have b:=(bU de e1).ay (bU b9 e2);have G:=bU b9 e2 _ _ (bw e1);have H:=bw e2;simp only[ah,seval,G,H];have done:∀(q:Bool) (e:Env) (h3:ae),h.ar h3->e 4=.bool q->(x.cW==y.cW&&(x.cS==y.cS&&(x.b2==y.b2&&x.cf==y.cf)))=q->dT pv Tryz.f12 (λF h' z=>F=s/\h.ar h'/\z=.bool (x.cW==y.cW&&(x.cS==y.cS&&(x.b2==y.b2&&x.cf==y.cf)))) 79 e [] s h3:=λq e h3 l3 e4 n=>
  bu Tryz.results12 Y ⟨rfl,l3,by rw[e4,n]⟩
 by_cases bK:x.cW=y.cW
 case neg=>
  have e:(x.cW != y.cW)=J:=by simpa using bK
  simp only[ah,seval,e];exact done q9 _ _ b atA (by simp[bK])
 have e:(x.cW != y.cW)=q9:=by simpa using bK
 simp only[ah,seval,e,G,H];by_cases bR:x.cS=y.cS
 case neg=>
  have e:(x.cS != y.cS)=J:=by simpa using bR
  simp only[ah,seval,e];exact done q9 _ _ b atA (by simp[bR])
 have e:(x.cS != y.cS)=q9:=by simpa using bR
 simp only[ah,seval,e,G,H];have ly:=b4.1;have dt:=b6.1;have ls:=b5.1;have dx:=b8.1;by_cases cQ:g.length=N.length
 case neg=>
  have e:((g.length:Int) != N.length)=J:=atB
  simp only[ah,seval,e];have:(x.b2==y.b2)=q9:=by rw[beq_eq_false_iff_ne];intro q;rw[q]at ly;omega
  exact done q9 _ _ b atA (by simp[this])
 have e:((g.length:Int) != N.length)=q9:=atB
 simp only[ah,seval,e,G,H];by_cases n4:j.length=P.length
 case neg=>
  have e:((j.length:Int) != P.length)=J:=atB
  simp only[ah,seval,e];have:(x.cf==y.cf)=q9:=by rw[beq_eq_false_iff_ne];intro q;rw[q]at ls;omega
  exact done q9 _ _ b atA (by simp[this])
 have e:((j.length:Int) != P.length)=q9:=atB
 simp only[ah,seval,e];refine du (I:=λk e d F h'=>∃i:Nat,k=g.length- i/\i<=g.length/\e 2=aV c1 0/\e 3=aV c2 0/\e 5=.int .i64 i/\d=[]/\F=s/\h2.ar h'/\x.b2.take i=y.b2.take i) (λk e d F h' hI=> ?_) (m:=g.length) ⟨0,Y,U,atA,atA,atA,rfl,rfl,λ_ _ q=>q,Y⟩;obtain⟨i,rfl,dA,E,Q,K,rfl,rfl,a,R⟩:=hI;have L:=a _ _ G;have W:=a _ _ H;simp only[ah,seval,E,K,L];rcases vy i g.length with hc|hc
 .simp only[ah,seval,decide_eq_true (U:(i:Int)<g.length),fI];obtain⟨mb,rfl,arr,q,f,w,hm,dS⟩:=hp.resolve_left U;obtain⟨ag,rfl,ea,q',f',w',az,ed⟩:=cM.resolve_left U;have a6:i<N.length:=U
  have da:=dS i hc;have dQ:=ed i a6;have gm:∀h,h'.ar h->h mb=_:=λh le=>le _ _ (a _ _ (b _ _ hm));have a8:∀h,h'.ar h->h ag=_:=λh le=>le _ _ (a _ _ (b _ _ az));have gc:∀h,h'.ar h->h c1=_:=λh le=>le _ _ L;have ba:∀h,h'.ar h->h c2=_:=λh le=>le _ _ W;have bd:decide ((i:Int)<g.length)=J:=atB
  have bb:decide ((i:Int)<N.length)=J:=atB
  have ab:i<x.b2.length:=U
  have hy:i<y.b2.length:=U
  have A:=b4.2 i g[i] x.b2[i] Y Y;have B:=b6.2 i N[i] y.b2[i] Y Y;obtain⟨a1,o1,z1,dH,aA,_⟩:=id A;obtain⟨ef,eg,eh,ek,X,_⟩:=id B;intro t;refine kv eR O O ?_ t
  repeat refine gF (λh1 le=>by simp only[ah,seval,cJ,le,E,Q,K,gm,a8,gc,ba,da,dQ,bd,bb,aA,X];exact⟨λ_ _ q=>q,rfl⟩) ?_
  refine gF (v:=.bool (x.b2[i]==y.b2[i])) (λh3 D=> ?_) ?_
  .simp only[ah,seval,cJ];rw[aA]at A;rw[X]at B;exact cd alK (alL (dE.le (b.ay (a.ay D)) A) (dE.le (b.ay (a.ay D)) B) (hi.1 _ (N0 _))) λfe h4 v ⟨r1,r2,r3⟩=>⟨r1,r2,r3⟩
  repeat refine gF (λh1 le=>by simp only[ah,seval,cJ];exact⟨λ_ _ q=>q,rfl⟩) ?_
  rw[jN];intro h3 D;by_cases n:x.b2[i]=y.b2[i]
  .have M:(x.b2[i]==y.b2[i])=J:=by simpa using n
   simp only[ah,seval,M,K];refine⟨_,?_,i+1,rfl,U,by simp[E],by simp[Q],by simp[cq (x:=(i:Int)+1) U U],a.ay D,?_⟩
   .omega
   .rw[atC,atC,R];simp[ab,hy,n]
  .have M:(x.b2[i]==y.b2[i])=q9:=by simpa using n
   simp only[ah,seval,M];have:(x.b2==y.b2)=q9:=by rw[beq_eq_false_iff_ne];intro q;exact n (by simp[q])
   exact done q9 _ _ (b.ay (a.ay D)) atA (by simp[this])
 .simp only[ah,seval,decide_eq_false (U:¬(i:Int)<g.length)];have bk:i=g.length:=U
  rw[bk,ly,N3,<- ly,cQ,dt,N3]at R;have b:=b.ay a;have G:=L;have H:=W;generalize en:h'=h2 at b G H ⊢;clear en L W;refine du (I:=λk e d sx ab=>∃i:Nat,k=j.length- i/\i<=j.length/\e 2=aV c1 0/\e 3=aV c2 0/\e 6=.int .i64 i/\d=[]/\sx=F/\h2.ar ab/\x.cf.take i=y.cf.take i) (λk e d F h' hI=> ?_) (m:=j.length) ⟨0,Y,U,by simp[ak,E],by simp[ak,Q],atA,rfl,rfl,λ_ _ q=>q,Y⟩;obtain⟨i,rfl,dA,E,Q,K,rfl,rfl,a,R⟩:=hI;have L:=a _ _ G;have W:=a _ _ H;simp only[ah,seval,E,K,L];rcases vy i j.length with hc|hc
  .simp only[ah,seval,decide_eq_true (U:(i:Int)<j.length),fI];obtain⟨mb,rfl,arr,q,f,w,hm,ep⟩:=hr.resolve_left U;obtain⟨ag,rfl,ea,q',f',w',az,er⟩:=dd.resolve_left U;have a6:i<P.length:=U
   have da:=ep i hc;have dQ:=er i a6;have gm:∀h,h'.ar h->h mb=_:=λh le=>le _ _ (a _ _ (b _ _ hm));have a8:∀h,h'.ar h->h ag=_:=λh le=>le _ _ (a _ _ (b _ _ az));have gc:∀h,h'.ar h->h c1=_:=λh le=>le _ _ L;have ba:∀h,h'.ar h->h c2=_:=λh le=>le _ _ W;have bd:decide ((i:Int)<j.length)=J:=atB
   have bb:decide ((i:Int)<P.length)=J:=atB
   have ab:i<x.cf.length:=U
   have hy:i<y.cf.length:=U
   have A:=b5.2 i j[i] x.cf[i] Y Y;have B:=b8.2 i P[i] y.cf[i] Y Y;obtain⟨a1,o1,z1,dH,aA,_⟩:=id A;obtain⟨ef,eg,eh,ek,X,_⟩:=id B;intro t;refine kv eR O O ?_ t
   repeat refine gF (λh1 le=>by simp only[ah,seval,cJ,le,E,Q,K,gm,a8,gc,ba,da,dQ,bd,bb,aA,X];exact⟨λ_ _ q=>q,rfl⟩) ?_
   refine gF (v:=.bool (x.cf[i]==y.cf[i])) (λh3 D=> ?_) ?_
   .simp only[ah,seval,cJ];rw[aA]at A;rw[X]at B;exact cd alM (alO (dE.le (b.ay (a.ay D)) A) (dE.le (b.ay (a.ay D)) B) (hi.2 _ (N0 _))) λfe h4 v ⟨r1,r2,r3⟩=>⟨r1,r2,r3⟩
   repeat refine gF (λh1 le=>by simp only[ah,seval,cJ];exact⟨λ_ _ q=>q,rfl⟩) ?_
   rw[jN];intro h3 D;by_cases n:x.cf[i]=y.cf[i]
   .have M:(x.cf[i]==y.cf[i])=J:=by simpa using n
    simp only[ah,seval,M,K];refine⟨_,?_,i+1,rfl,U,by simp[E],by simp[Q],by simp[cq (x:=(i:Int)+1) U U],a.ay D,?_⟩
    .omega
    .rw[atC,atC,R];simp[ab,hy,n]
   .have M:(x.cf[i]==y.cf[i])=q9:=by simpa using n
    simp only[ah,seval,M];have:(x.cf==y.cf)=q9:=by rw[beq_eq_false_iff_ne];intro q;exact n (by simp[q])
    exact done q9 _ _ (b.ay (a.ay D)) atA (by simp[this])
  .simp only[ah,seval,decide_eq_false (U:¬(i:Int)<j.length)];have bk:i=j.length:=U
   rw[bk,ls,N3,<- ls,n4,dx,N3]at R;exact done J _ _ (b.ay a) atA (by simp[*])
end
section
variable{main:Bool}{ai:Type}{S:Sys ai}{s:ai}{h:ae}
def alR:bz pv 13=J:=O
def alS{x y:su}{a b:fU}[K:KK o5]:al pv (bN .neq 51 x y (.agg #[au a.name,.int .i64 a.cX,.int .i64 a.size,.int .i64 a.gS]) (.agg #[au b.name,.int .i64 b.cX,.int .i64 b.size,.int .i64 b.gS])) h=K.f (.bool (!wC a b)) h:=alH
def alT{x y:su}{a b:fV}[K:KK o5]:al pv (bN .neq 53 x y (.agg #[au a.name,.int .i64 a.size,.int .i64 a.ff,.int .i64 a.cX]) (.agg #[au b.name,.int .i64 b.size,.int .i64 b.ff,.int .i64 b.cX])) h=K.f (.bool (!wD a b)) h:=alI
def dE.four{α:Type}{v:o5}{l:List α}{f0 da dQ a:α->o5}(q:dE h v 4 (l.map λx=>[f0 x,da x,dQ x,a x])):∃b o c,v=.slice b l.length c/\(l.length=0\/∃m,b=C ⟨m,o,o0⟩/\∃arr q f w,h m=C ⟨.cells arr q f,w⟩/\∀i (hi:i<l.length),arr[o+i*4]? =C (f0 l[i])/\arr[o+i*4+1]? =C (da l[i])/\arr[o+i*4+2]? =C (dQ l[i])/\arr[o+i*4+3]? =C (a l[i])):=by obtain⟨b,o,n,c,rfl,d,hb⟩:=q;simp only[atJ]at d;subst d;refine⟨b,o,c,rfl,hb.imp id λ⟨m,e,arr,q,f,w,j,g⟩=>⟨m,e,arr,q,f,w,j,λi hi=> ?_⟩⟩;have:=g i [f0 l[i],da l[i],dQ l[i],a l[i]] (by simp[hi]);exact⟨this 0 _ rfl,this 1 _ rfl,this 2 _ rfl,this 3 _ rfl⟩
def alU{v w:o5}{x y:Ground}(hv:kL h v x)(hw:kL h w y)(hl:x.db.length<=1000/\x.c7.length<=1000):bo pv main S 13 #[v,w] s h λs' h' z=>s'=s/\h.ar h'/\(z=.bool J/\x.db=y.db/\x.c7=y.c7\/z=.bool q9/\¬(x.db=y.db/\x.c7=y.c7)):=by
 refine bL (args:=[v,w]) Tryz.func13 (by delta Tryz.f13;rfl) Tryz.ntmps13 Y O ?_;obtain⟨v1,v2,rfl,b8,b9⟩:=hv;obtain⟨w1,w2,rfl,ca,cb⟩:=hw;obtain⟨p,o,c,rfl,hp⟩:=b8.four;obtain⟨p',o',bJ,rfl,ck⟩:=ca.four;obtain⟨r,u,d,rfl,hr⟩:=b9.four;obtain⟨r',u',d',rfl,cm⟩:=cb.four;generalize ee:x.db=a at*
 generalize ef:x.c7=b at*
 generalize eg:y.db=l at*
 generalize eh:y.c7=n at*
 simp only[ah,seval];intro c1 h1 cp e1 c2 h2 bt e2;have A:=(bU cp e1).ay (bU bt e2);have K:=bU bt e2 _ _ (bw e1);have L:=bw e2;simp only[ah,seval,K,L];have done:∀(q:Bool) (e:Env) (h3:ae),h.ar h3->e 4=.bool q->(q=J↔(a=l/\b=n))->dT pv Tryz.f13 (λs' h' z=>s'=s/\h.ar h'/\(z=.bool J/\a=l/\b=n\/z=.bool q9/\¬(a=l/\b=n))) 59 e [] s h3:=λq e h3 l3 e4 B=>
  bu Tryz.results13 Y ⟨rfl,l3,by rw[e4];cases q<;>simp at B ⊢ <;>exact B⟩
 by_cases cQ:a.length=l.length
 case neg=>
  have e:((a.length:Int) != l.length)=J:=atB
  simp only[ah,seval,e];exact done q9 _ _ A atA (by simp;intro q;exact(cQ (by rw[q])).elim)
 have e:((a.length:Int) != l.length)=q9:=atB
 simp only[ah,seval,e,K,L];by_cases n4:b.length=n.length
 case neg=>
  have e:((b.length:Int) != n.length)=J:=atB
  simp only[ah,seval,e];exact done q9 _ _ A atA (by simp;intro _ q;exact(n4 (by rw[q])).elim)
 have e:((b.length:Int) != n.length)=q9:=atB
 simp only[ah,seval,e];refine du (I:=λk e d R j=>∃i:Nat,k=a.length- i/\i<=a.length/\e 2=aV c1 0/\e 3=aV c2 0/\e 5=.int .i64 i/\d=[]/\R=s/\h2.ar j/\a.take i=l.take i) (λk e d R j W=> ?_) (m:=a.length) ⟨0,Y,U,atA,atA,atA,rfl,rfl,λ_ _ q=>q,Y⟩;obtain⟨i,rfl,c6,D,H,E,rfl,X,g,ha⟩:=W;subst X;have F:=g _ _ K;have M:=g _ _ L;simp only[ah,seval,D,E,F];rcases vy i a.length with hc|hc
 .simp only[ah,seval,decide_eq_true (U:(i:Int)<a.length),fI];obtain⟨mb,rfl,arr,q,f,w,hm,ad⟩:=hp.resolve_left U;obtain⟨af,rfl,dd,q',f',w',ag,az⟩:=ck.resolve_left U;have N:i<l.length:=U
  obtain⟨a0,a1,a2,a3⟩:=ad i hc;obtain⟨b0,bM,bE,P⟩:=az i N;simp only[bO]at a1 a2 a3 bM bE P;have gm:∀h,j.ar h->h mb=_:=λh le=>le _ _ (g _ _ (A _ _ hm));have a7:∀h,j.ar h->h af=_:=λh le=>le _ _ (g _ _ (A _ _ ag));have gc:∀h,j.ar h->h c1=_:=λh le=>le _ _ F;have a8:∀h,j.ar h->h c2=_:=λh le=>le _ _ M;have bd:decide ((i:Int)<a.length)=J:=atB
  have ba:decide ((i:Int)<l.length)=J:=atB
  intro t;refine kv eR O O ?_ t
  repeat refine gF (λh1 le=>by simp only[ah,seval,cJ,le,D,H,E,gm,a7,gc,a8,a0,a1,a2,a3,b0,bM,bE,P,bd,ba,alS];exact⟨λ_ _ q=>q,rfl⟩) ?_
  rw[jN];intro h3 Q;by_cases B:a[i]=l[i]
  .have G:(!wC a[i] l[i])=q9:=by rw[TL.2 B];rfl
   simp only[ah,seval,G,E];refine⟨_,?_,i+1,rfl,U,by simp[D],by simp[H],by simp[cq (x:=(i:Int)+1) U U],g.ay Q,?_⟩
   .omega
   .rw[atC,atC,ha];simp[hc,N,B]
  .have G:(!wC a[i] l[i])=J:=by
    have:wC a[i] l[i]=q9:=by rw[<- axr,TL];exact B
    simp[this]
   simp only[ah,seval,G];exact done q9 _ _ (A.ay (g.ay Q)) atA (by simp;intro q;exact(B (by simp[q])).elim)
 .simp only[ah,seval,decide_eq_false (U:¬(i:Int)<a.length)];have bb:i=a.length:=U
  rw[bb,N3,cQ,N3]at ha;have A:=A.ay g;have K:=F;have L:=M;generalize dt:j=h2 at A K L ⊢;clear dt F M;refine du (I:=λk e d s2 j=>∃i:Nat,k=b.length- i/\i<=b.length/\e 2=aV c1 0/\e 3=aV c2 0/\e 6=.int .i64 i/\d=[]/\s2=R/\h2.ar j/\b.take i=n.take i) (λk e d s2 j W=> ?_) (m:=b.length) ⟨0,Y,U,by simp[ak,D],by simp[ak,H],atA,rfl,rfl,λ_ _ q=>q,Y⟩;obtain⟨i,rfl,c6,D,H,E,rfl,X,g,bh⟩:=W;subst X;have F:=g _ _ K;have M:=g _ _ L;simp only[ah,seval,D,E,F];rcases vy i b.length with hc|hc
  .simp only[ah,seval,decide_eq_true (U:(i:Int)<b.length),fI];obtain⟨mb,rfl,arr,q,f,w,hm,ad⟩:=hr.resolve_left U;obtain⟨af,rfl,dd,q',f',w',ag,az⟩:=cm.resolve_left U;have N:i<n.length:=U
   obtain⟨a0,a1,a2,a3⟩:=ad i hc;obtain⟨b0,bM,bE,P⟩:=az i N;simp only[bO]at a1 a2 a3 bM bE P;have gm:∀h,j.ar h->h mb=_:=λh le=>le _ _ (g _ _ (A _ _ hm));have a7:∀h,j.ar h->h af=_:=λh le=>le _ _ (g _ _ (A _ _ ag));have gc:∀h,j.ar h->h c1=_:=λh le=>le _ _ F;have a8:∀h,j.ar h->h c2=_:=λh le=>le _ _ M;have bd:decide ((i:Int)<b.length)=J:=atB
   have ba:decide ((i:Int)<n.length)=J:=atB
   intro t;refine kv eR O O ?_ t
   repeat refine gF (λh1 le=>by simp only[ah,seval,cJ,le,D,H,E,gm,a7,gc,a8,a0,a1,a2,a3,b0,bM,bE,P,bd,ba,alT];exact⟨λ_ _ q=>q,rfl⟩) ?_
   rw[jN];intro h3 Q;by_cases B:b[i]=n[i]
   .have G:(!wD b[i] n[i])=q9:=by rw[TM.2 B];rfl
    simp only[ah,seval,G,E];refine⟨_,?_,i+1,rfl,U,by simp[D],by simp[H],by simp[cq (x:=(i:Int)+1) U U],g.ay Q,?_⟩
    .omega
    .rw[atC,atC,bh];simp[hc,N,B]
   .have G:(!wD b[i] n[i])=J:=by
     have:wD b[i] n[i]=q9:=by rw[<- axr,TM];exact B
     simp[this]
    simp only[ah,seval,G];exact done q9 _ _ (A.ay (g.ay Q)) atA (by simp;intro _ q;exact(B (by simp[q])).elim)
  .simp only[ah,seval,decide_eq_false (U:¬(i:Int)<b.length)];have bb:i=b.length:=U
   rw[bb,N3,n4,N3]at bh;exact done J _ _ (A.ay g) atA (by simp[ha,bh])
end
section
variable{main:Bool}{ai:Type}{S:Sys ai}{s:ai}{h:ae}
def alV:bz pv 5=J:=O
def alW:bz pv 6=J:=O
def eH{ty:TypeId}{l:List UInt8}[K:KK o5]:al pv (Builtin.len_ #[9] ty #[.string ⟨⟨l⟩⟩]) h=K.f (.int .i64 l.length) h:=LS
def bY.df(x:bY):Prop:=x.b2.length>20\/x.cf.length>20\/(∃l∈x.b2,l.length>20)\/∃l∈x.cf,l.length>20
def Ground.wide(x:Ground):Prop:=x.db.length>20\/x.c7.length>20\/(∃l∈x.db,l.name.length>100)\/∃l∈x.c7,l.name.length>100
def alX{v:o5}{x:bY}(hv:k7 h v x):bo pv main S 5 #[v] s h λX h' z=>X=s/\h.ar h'/\(z=.bool J/\x.df\/z=.bool q9/\¬x.df):=by
 refine bL (args:=[v]) Tryz.func5 (by delta Tryz.f5;rfl) Tryz.ntmps5 Y O ?_;obtain⟨v1,v2,rfl,⟨g,a7,ad⟩,j,a8,af⟩:=hv;obtain⟨p,o,c,rfl,hp⟩:=a7.one;obtain⟨r,u,d,rfl,hr⟩:=a8.one;simp only[ah,seval,bO];intro c1 h1 bd e1;have n:=bU bd e1;have E:=bw e1;simp only[ah,seval,E];have done:∀(q:Bool) (e:Env) (h3:ae),h.ar h3->e 2=.bool q->(q=J↔x.df)->dT pv Tryz.f5 (λX h' z=>X=s/\h.ar h'/\(z=.bool J/\x.df\/z=.bool q9/\¬x.df)) 45 e [] s h3:=λq e h3 l3 e4 D=>
  bu Tryz.results5 Y ⟨rfl,l3,by rw[e4];cases q<;>simp at D ⊢ <;>exact D⟩
 have ly:=ad.1;have ls:=af.1;by_cases cQ:g.length>20
 .simp only[ah,seval,decide_eq_true (U:(g.length:Int)>20)];exact done J _ _ n atA (by simp[bY.df];omega)
 simp only[ah,seval,decide_eq_false (U:¬(g.length:Int)>20),E];by_cases n4:j.length>20
 .simp only[ah,seval,decide_eq_true (U:(j.length:Int)>20)];exact done J _ _ n atA (by simp[bY.df];omega)
 simp only[ah,seval,decide_eq_false (U:¬(j.length:Int)>20)];refine du (I:=λk e d K F=>∃i:Nat,k=g.length- i/\i<=g.length/\e 1=aV c1 0/\e 3=.int .i64 i/\d=[]/\K=s/\h1.ar F/\∀l∈x.b2.take i,l.length<=20) (λk e d K F L=> ?_) (m:=g.length) ⟨0,Y,U,atA,atA,rfl,rfl,λ_ _ q=>q,Y⟩;obtain⟨i,rfl,bl,t,y,rfl,M,b,N⟩:=L;subst M;have B:=b _ _ E;simp only[ah,seval,t,y,B];rcases vy i g.length with hc|hc
 .obtain⟨mb,rfl,arr,q,f,w,hm,P⟩:=hp.resolve_left U;have da:=P i hc;have Q:=b _ _ (n _ _ hm);have G:i<x.b2.length:=U
  have A:=ad.2 i g[i] x.b2[i] Y Y;obtain⟨a1,o1,z1,dH,aA,H,_⟩:=A;simp only[atJ]at H;subst H;simp only[ah,seval,decide_eq_true (U:(i:Int)<g.length),t,y,B,Q,da,aA];by_cases D:x.b2[i].length>20
  .simp only[ah,seval,decide_eq_true (U:(x.b2[i].length:Int)>20)];exact done J _ _ (n.ay b) atA (by simp only[true_iff];exact .inr (.inr (.inl ⟨_,N0 G,D⟩)))
  .simp only[ah,seval,decide_eq_false (U:¬(x.b2[i].length:Int)>20),y];refine⟨_,?_,i+1,rfl,U,by simp[t],by simp[cq (x:=(i:Int)+1) U U],b,λl a=> ?_⟩
   .omega
   .rw[atC,D3]at a;rcases a with a|a
    .exact N l a
    .simp[G]at a;subst a;omega
 .simp only[ah,seval,decide_eq_false (U:¬(i:Int)<g.length)];have R:i=g.length:=U
  rw[R,ly,N3]at N;have n:=n.ay b;have E:=B;generalize bn:F=h1 at n E ⊢;clear bn B;refine du (I:=λk e d s2 F=>∃i:Nat,k=j.length- i/\i<=j.length/\e 1=aV c1 0/\e 4=.int .i64 i/\d=[]/\s2=K/\h1.ar F/\∀l∈x.cf.take i,l.length<=20) (λk e d s2 F L=> ?_) (m:=j.length) ⟨0,Y,U,by simp[ak,t],atA,rfl,rfl,λ_ _ q=>q,Y⟩;obtain⟨i,rfl,bl,t,y,rfl,M,b,W⟩:=L;subst M;have B:=b _ _ E;simp only[ah,seval,t,y,B];rcases vy i j.length with hc|hc
  .obtain⟨mb,rfl,arr,q,f,w,hm,P⟩:=hr.resolve_left U;have da:=P i hc;have Q:=b _ _ (n _ _ hm);have G:i<x.cf.length:=U
   have A:=af.2 i j[i] x.cf[i] Y Y;obtain⟨a1,o1,z1,dH,aA,H,_⟩:=A;simp only[atJ]at H;subst H;simp only[ah,seval,decide_eq_true (U:(i:Int)<j.length),t,y,B,Q,da,aA];by_cases D:x.cf[i].length>20
   .simp only[ah,seval,decide_eq_true (U:(x.cf[i].length:Int)>20)];exact done J _ _ (n.ay b) atA (by simp only[true_iff];exact .inr (.inr (.inr ⟨_,N0 G,D⟩)))
   .simp only[ah,seval,decide_eq_false (U:¬(x.cf[i].length:Int)>20),y];refine⟨_,?_,i+1,rfl,U,by simp[t],by simp[cq (x:=(i:Int)+1) U U],b,λl a=> ?_⟩
    .omega
    .rw[atC,D3]at a;rcases a with a|a
     .exact W l a
     .simp[G]at a;subst a;omega
  .simp only[ah,seval,decide_eq_false (U:¬(i:Int)<j.length)];have R:i=j.length:=U
   rw[R,ls,N3]at W;refine done q9 _ _ (n.ay b) atA ?_;simp only[N2,false_iff];rintro(q|q|⟨l,a,q⟩|⟨l,a,q⟩)
   .omega
   .omega
   .have:=N l a;omega
   .have:=W l a;omega
def alY{v:o5}{x:Ground}(hv:kL h v x):bo pv main S 6 #[v] s h λW h' z=>W=s/\h.ar h'/\(z=.bool J/\x.wide\/z=.bool q9/\¬x.wide):=by
 refine bL (args:=[v]) Tryz.func6 (by delta Tryz.f6;rfl) Tryz.ntmps6 Y O ?_;obtain⟨v1,v2,rfl,ag,az⟩:=hv;obtain⟨p,o,c,rfl,hp⟩:=ag.four;obtain⟨r,u,d,rfl,hr⟩:=az.four;generalize F:x.db=b at*
 generalize G:x.c7=g at*
 simp only[ah,seval];intro c1 h1 a8 e1;have n:=bU a8 e1;have D:=bw e1;simp only[ah,seval,D];have done:∀(q:Bool) (e:Env) (h3:ae),h.ar h3->e 2=.bool q->(q=J↔x.wide)->dT pv Tryz.f6 (λW h' z=>W=s/\h.ar h'/\(z=.bool J/\x.wide\/z=.bool q9/\¬x.wide)) 45 e [] s h3:=λq e h3 l3 e4 B=>
  bu Tryz.results6 Y ⟨rfl,l3,by rw[e4];cases q<;>simp at B ⊢ <;>exact B⟩
 by_cases cQ:b.length>20
 .simp only[ah,seval,decide_eq_true (U:(b.length:Int)>20)];exact done J _ _ n atA (by simp[Ground.wide,F,G];omega)
 simp only[ah,seval,decide_eq_false (U:¬(b.length:Int)>20),D];by_cases n4:g.length>20
 .simp only[ah,seval,decide_eq_true (U:(g.length:Int)>20)];exact done J _ _ n atA (by simp[Ground.wide,F,G];omega)
 simp only[ah,seval,decide_eq_false (U:¬(g.length:Int)>20)];refine du (I:=λk e d H E=>∃i:Nat,k=b.length- i/\i<=b.length/\e 1=aV c1 0/\e 3=.int .i64 i/\d=[]/\H=s/\h1.ar E/\∀l∈b.take i,l.name.length<=100) (λk e d H E K=> ?_) (m:=b.length) ⟨0,Y,U,atA,atA,rfl,rfl,λ_ _ q=>q,Y⟩;obtain⟨i,rfl,bb,t,y,rfl,L,j,M⟩:=K;subst L;have A:=j _ _ D;simp only[ah,seval,t,y,A];rcases vy i b.length with hc|hc
 .obtain⟨mb,rfl,arr,q,f,w,X,N⟩:=hp.resolve_left U;obtain⟨da,_⟩:=N i hc;have P:=j _ _ (n _ _ X);simp only[ah,seval,decide_eq_true (U:(i:Int)<b.length),t,y,A,P,da,eH];by_cases B:b[i].name.length>100
  .simp only[ah,seval,decide_eq_true (U:(b[i].name.length:Int)>100)];exact done J _ _ (n.ay j) atA (by simp only[true_iff];exact .inr (.inr (.inl ⟨_,F▸N0 hc,B⟩)))
  .simp only[ah,seval,decide_eq_false (U:¬(b[i].name.length:Int)>100),y];refine⟨_,?_,i+1,rfl,U,by simp[t],by simp[cq (x:=(i:Int)+1) U U],j,λl a=> ?_⟩
   .omega
   .rw[atC,D3]at a;rcases a with a|a
    .exact M l a
    .simp[hc]at a;subst a;omega
 .simp only[ah,seval,decide_eq_false (U:¬(i:Int)<b.length)];have Q:i=b.length:=U
  rw[Q,N3]at M;have n:=n.ay j;have D:=A;generalize bd:E=h1 at n D ⊢;clear bd A;refine du (I:=λk e d s2 E=>∃i:Nat,k=g.length- i/\i<=g.length/\e 1=aV c1 0/\e 4=.int .i64 i/\d=[]/\s2=H/\h1.ar E/\∀l∈g.take i,l.name.length<=100) (λk e d s2 E K=> ?_) (m:=g.length) ⟨0,Y,U,by simp[ak,t],atA,rfl,rfl,λ_ _ q=>q,Y⟩;obtain⟨i,rfl,bb,t,y,rfl,L,j,R⟩:=K;subst L;have A:=j _ _ D;simp only[ah,seval,t,y,A];rcases vy i g.length with hc|hc
  .obtain⟨mb,rfl,arr,q,f,w,X,N⟩:=hr.resolve_left U;obtain⟨da,_⟩:=N i hc;have P:=j _ _ (n _ _ X);simp only[ah,seval,decide_eq_true (U:(i:Int)<g.length),t,y,A,P,da,eH];by_cases B:g[i].name.length>100
   .simp only[ah,seval,decide_eq_true (U:(g[i].name.length:Int)>100)];exact done J _ _ (n.ay j) atA (by simp only[true_iff];exact .inr (.inr (.inr ⟨_,G▸N0 hc,B⟩)))
   .simp only[ah,seval,decide_eq_false (U:¬(g[i].name.length:Int)>100),y];refine⟨_,?_,i+1,rfl,U,by simp[t],by simp[cq (x:=(i:Int)+1) U U],j,λl a=> ?_⟩
    .omega
    .rw[atC,D3]at a;rcases a with a|a
     .exact R l a
     .simp[hc]at a;subst a;omega
  .simp only[ah,seval,decide_eq_false (U:¬(i:Int)<g.length)];have Q:i=g.length:=U
   rw[Q,N3]at R;refine done q9 _ _ (n.ay j) atA ?_;simp only[N2,false_iff];unfold Ground.wide;rw[F,G];rintro(q|q|⟨l,a,q⟩|⟨l,a,q⟩)
   .omega
   .omega
   .have:=M l a;omega
   .have:=R l a;omega
end
def tu{α:Type}(g:α->Int):List α->Int
 | []=>0
 |x::r=>if g x=0 then tu g r else g x
def AQ{α:Type}{g:α->Int}:∀{l:List α},tu g l=0↔∀x∈l,g x=0
 | []=>by simp[tu]
 |x::r=>by
  rw[tu];by_cases h:g x=0
  .rw[if_pos h,AQ];simp[h]
  .rw[if_neg h];simp[h]
def AR{α:Type}{g:α->Int}:∀{l:List α} {i:Nat} (_:∀x∈l.take i,g x=0) (hi:i<l.length) (_:g l[i]≠0),tu g l=g l[i]
 |x::r,0,_,_,h=>by have h':g x≠0:=h;rw[tu,if_neg h'];rfl
 |x::r,i+1,a,hi,h=>by rw[tu,if_pos (a x Y)];exact AR (l:=r) (λy b=>a y (by simp[b])) (by simpa using hi) h
def ji{α:Type}(g:List α->α->Int):List α->List α->Int
 |_,[]=>0
 |p,x::r=>if g p x=0 then ji g (p++[x]) r else g p x
def TO{α:Type}{g:List α->α->Int}:∀{l p m:List α},ji g p (l++m)=if ji g p l=0 then ji g (p++l) m else ji g p l
 | [],p,m=>by simp[ji]
 |x::l,p,m=>by
  rw[List.cons_append,ji,ji];by_cases h:g p x=0
  .rw[if_pos h,if_pos h,TO (l:=l)];simp
  .rw[if_neg h,if_neg h,if_neg h]
def TP{α:Type}{g:List α->α->Int}{l:List α}{i:Nat}(a:ji g [] (l.take i)=0)(hi:i<l.length){f:Int}(b:g (l.take i) l[i]=f)(h0:f≠0):ji g [] l=f:=by
 have e:l=l.take i++l[i]::l.drop (i+1):=by rw[<- List.drop_eq_getElem_cons hi,List.take_append_drop]
 rw[e,TO,if_pos a,List.nil_append,ji,b,if_neg h0]
def nP(n:Int):Bool:=decide ((0:Int)<=n)&&decide (n<=999)
structure bY.dF(x:bY):Prop where
 lay:1<=x.b2.length/\x.b2.length<=3
 uM:∀l∈x.b2,l.length=4/\∀n∈l,nP n=J
 yI:x.cf.length<=4
 load:∀l∈x.cf,l.length=4/\∀p∈l,na p 0 999=J
 cg:(decide ((0:Int)<=x.cW)&&decide (x.cW<=9999))=J
 gr:(decide ((0:Int)<=x.cS)&&decide (x.cS<=4))=J
def uN{α:Type}(g:α->Bool)(l:List α):Int:=if l.length=4 then if l.all g then 0 else 1 else 2
def yJ{α:Type}{g:α->Bool}{l:List α}:uN g l=0↔l.length=4/\∀n∈l,g n=J:=by
 unfold uN;split
 .rename_i h;split
  .rename_i a;simp[h];simpa using a
  .rename_i a;simp[h];simpa using a
 .rename_i h;simp[h]
def EX{α:Type}{g:α->Bool}{l:List α}(h:l.length≠4):uN g l=2:=by unfold uN;rw[if_neg h]
def EY{α:Type}{g:α->Bool}{l:List α}(h:l.length=4){n:α}(a:n∈l)(hb:g n=q9):uN g l=1:=by unfold uN;rw[if_pos h,if_neg];intro q;rw[List.all_eq_true]at q;rw[q n a]at hb;cases hb
def oZ(l:List Int):Int:=uN nP l
def o7(l:List (Int×Int)):Int:=uN (λp=>na p 0 999) l
def bY.ky(x:bY):Int:=if 1<=x.b2.length/\x.b2.length<=3 then tu oZ x.b2 else 2
def bY.kM(x:bY):Int:=if x.cf.length<=4 then tu o7 x.cf else 2
def bY.nQ(x:bY):Int:=if(decide ((0:Int)<=x.cW)&&decide (x.cW<=9999))=J/\(decide ((0:Int)<=x.cS)&&decide (x.cS<=4))=J then 0 else 1
def bY.dr(x:bY):Int:=if x.ky=0 then if x.kM=0 then x.nQ else x.kM else x.ky
def bY.TQ{x:bY}:x.ky=0↔(1<=x.b2.length/\x.b2.length<=3)/\∀l∈x.b2,l.length=4/\∀n∈l,nP n=J:=by
 unfold bY.ky;by_cases h:1<=x.b2.length/\x.b2.length<=3
 .rw[if_pos h,AQ];simp only[oZ,yJ];simp[h]
 .rw[if_neg h];simp[h]
def bY.TR{x:bY}:x.kM=0↔x.cf.length<=4/\∀l∈x.cf,l.length=4/\∀p∈l,na p 0 999=J:=by
 unfold bY.kM;by_cases h:x.cf.length<=4
 .rw[if_pos h,AQ];simp only[o7,yJ];simp[h]
 .rw[if_neg h];simp[h]
def bY.Md{x:bY}:x.nQ=0↔(decide ((0:Int)<=x.cW)&&decide (x.cW<=9999))=J/\(decide ((0:Int)<=x.cS)&&decide (x.cS<=4))=J:=by
 unfold bY.nQ;split
 .rename_i h;exact⟨λ_=>h,λ_=>rfl⟩
 .rename_i h;exact⟨λq=>(by cases q),λq=>(h q).elim⟩
def bY.uO{x:bY}:x.dr=0↔x.dF:=by
 have key:x.dr=0↔x.ky=0/\x.kM=0/\x.nQ=0:=by
  unfold bY.dr;by_cases h:x.ky=0
  .rw[if_pos h];by_cases g:x.kM=0
   .rw[if_pos g];simp[h,g]
   .rw[if_neg g];simp[g]
  .rw[if_neg h];simp[h]
 rw[key,bY.TQ,bY.TR,bY.Md];constructor
 .rintro⟨⟨a,b⟩,⟨c,d⟩,e,f⟩;exact⟨a,b,c,d,e,f⟩
 .intro q;exact⟨⟨q.lay,q.uM⟩,⟨q.yI,q.load⟩,q.cg,q.gr⟩
def bY.Me{x:bY}{f:Int}(h:x.ky=f)(a:f≠0):x.dr=f:=by unfold bY.dr;rw[h,if_neg a]
def bY.yK{x:bY}{f:Int}(h0:x.ky=0)(h:x.kM=f)(a:f≠0):x.dr=f:=by unfold bY.dr;rw[if_pos h0,h,if_neg a]
def bY.AS{x:bY}{f:Int}(h0:x.ky=0)(h1:x.kM=0)(h:x.nQ=f):x.dr=f:=by unfold bY.dr;rw[if_pos h0,if_pos h1,h]
def bY.alZ{x:bY}{i:Nat}(n:1<=x.b2.length/\x.b2.length<=3)(b:∀l∈x.b2.take i,l.length=4/\∀n∈l,nP n=J)(hi:i<x.b2.length){f:Int}(a:oZ x.b2[i]=f)(h0:f≠0):x.ky=f:=by unfold bY.ky;rw[if_pos n,AR (g:=oZ) (λl c=>yJ.2 (b l c)) hi (by rw[a];exact h0),a]
def bY.al0{x:bY}{i:Nat}(n:x.cf.length<=4)(b:∀l∈x.cf.take i,l.length=4/\∀n∈l,na n 0 999=J)(hi:i<x.cf.length){f:Int}(a:o7 x.cf[i]=f)(h0:f≠0):x.kM=f:=by unfold bY.kM;rw[if_pos n,AR (g:=o7) (λl c=>yJ.2 (b l c)) hi (by rw[a];exact h0),a]
def eJ(n lo hi:Int):Bool:=decide (lo<=n)&&decide (n<=hi)
def pQ(s:fU):Bool:=gR s.name&&(eJ s.cX 1 90&&(eJ s.size 1 150&&eJ s.gS 0 4))
def pR(s:fV):Bool:=gR s.name&&(eJ s.size 1 150&&(eJ s.ff 1 90&&(eJ s.cX 1 90&&decide (s.ff<=s.cX))))
def mI(l:List fU):Prop:=(∀s∈l,pQ s=J)/\(l.map (·.name)).Nodup
def mJ(l:List fV):Prop:=(∀s∈l,pR s=J)/\(l.map (·.name)).Nodup
def mI.take{l:List fU}(g:mI l)(i:Nat):mI (l.take i):=⟨λs hs=>g.1 s (aza hs),by rw[aAu];exact(aB2 _ _).nodup g.2⟩
def mJ.take{l:List fV}(g:mJ l)(i:Nat):mJ (l.take i):=⟨λs hs=>g.1 s (aza hs),by rw[aAu];exact(aB2 _ _).nodup g.2⟩
def EZ{l:List fU}{x:fU}:mI (l++[x])↔mI l/\pQ x=J/\∀y∈l,y.name≠x.name:=by
 simp only[mI,auu,aB3,D3];constructor
 .rintro⟨a,b,c,d⟩;exact⟨⟨λs hs=>a s (.inl hs),b⟩,a x (.inr Y),λy f e=>d _ (aB4 f) _ Y e⟩
 .rintro⟨⟨a,b⟩,c,d⟩;refine⟨λs hs=>hs.elim (a s) λq=>by simp at q;rw[q];exact c,b,Y,λp g q h e=> ?_⟩;simp at h g;obtain⟨y,f,rfl⟩:=g;exact d y f (by rw[e,h])
def E0{l:List fV}{x:fV}:mJ (l++[x])↔mJ l/\pR x=J/\∀y∈l,y.name≠x.name:=by
 simp only[mJ,auu,aB3,D3];constructor
 .rintro⟨a,b,c,d⟩;exact⟨⟨λs hs=>a s (.inl hs),b⟩,a x (.inr Y),λy f e=>d _ (aB4 f) _ Y e⟩
 .rintro⟨⟨a,b⟩,c,d⟩;refine⟨λs hs=>hs.elim (a s) λq=>by simp at q;rw[q];exact c,b,Y,λp g q h e=> ?_⟩;simp at h g;obtain⟨y,f,rfl⟩:=g;exact d y f (by rw[e,h])
structure Ground.dF(x:Ground):Prop where
 ns:x.db.length<=4
 st:mI x.db
 wF:x.c7.length<=6
 wx:mJ x.c7
def oF(p:List fU)(s:fU):Int:=if gR s.name=q9 then 4 else if(∃y∈p,y.name=s.name)then 5 else if(eJ s.cX 1 90&&(eJ s.size 1 150&&eJ s.gS 0 4))=q9 then 1 else 0
def nc(p:List fV)(s:fV):Int:=if gR s.name=q9 then 4 else if(∃y∈p,y.name=s.name)then 5 else if(eJ s.size 1 150&&(eJ s.ff 1 90&&eJ s.cX 1 90))=q9 then 1 else if s.ff<=s.cX then 0 else 7
def TS{p:List fU}{s:fU}(h:gR s.name=q9):oF p s=4:=by unfold oF;rw[if_pos h]
def TT{p:List fU}{s:fU}(h:gR s.name=J)(a:∃y∈p,y.name=s.name):oF p s=5:=by unfold oF;rw[if_neg (by rw[h];decide),if_pos a]
def yL{p:List fU}{s:fU}(h:gR s.name=J)(c:∀y∈p,y.name≠s.name)(d:(eJ s.cX 1 90&&(eJ s.size 1 150&&eJ s.gS 0 4))=q9):oF p s=1:=by unfold oF;rw[if_neg (by rw[h];decide),if_neg (λ⟨y,a,b⟩=>c y a b),if_pos d]
def TU{p:List fV}{s:fV}(h:gR s.name=q9):nc p s=4:=by unfold nc;rw[if_pos h]
def TV{p:List fV}{s:fV}(h:gR s.name=J)(a:∃y∈p,y.name=s.name):nc p s=5:=by unfold nc;rw[if_neg (by rw[h];decide),if_pos a]
def yM{p:List fV}{s:fV}(h:gR s.name=J)(c:∀y∈p,y.name≠s.name)(d:(eJ s.size 1 150&&(eJ s.ff 1 90&&eJ s.cX 1 90))=q9):nc p s=1:=by unfold nc;rw[if_neg (by rw[h];decide),if_neg (λ⟨y,a,b⟩=>c y a b),if_pos d]
def TW{p:List fV}{s:fV}(h:gR s.name=J)(c:∀y∈p,y.name≠s.name)(d:(eJ s.size 1 150&&(eJ s.ff 1 90&&eJ s.cX 1 90))=J)(e:¬s.ff<=s.cX):nc p s=7:=by unfold nc;rw[if_neg (by rw[h];decide),if_neg (λ⟨y,a,b⟩=>c y a b),if_neg (by rw[d];decide),if_neg e]
def TX{p:List fU}{s:fU}:oF p s=0↔pQ s=J/\∀y∈p,y.name≠s.name:=by
 unfold oF pQ;cases h:gR s.name with
 |false=>simp
 |true=>
  by_cases c:∃y∈p,y.name=s.name
  .rw[if_neg aty,if_pos c];exact⟨λq=>(by cases q),λq=>by obtain⟨y,a,b⟩:=c;exact(q.2 y a b).elim⟩
  .have d:∀y∈p,y.name≠s.name:=λy a b=>c ⟨y,a,b⟩;rw[if_neg aty,if_neg c];cases e:(eJ s.cX 1 90&&(eJ s.size 1 150&&eJ s.gS 0 4))with
   |false=>simp
   |true=>simp;exact d
def TY{p:List fV}{s:fV}:nc p s=0↔pR s=J/\∀y∈p,y.name≠s.name:=by
 unfold nc pR;cases h:gR s.name with
 |false=>simp
 |true=>
  by_cases c:∃y∈p,y.name=s.name
  .rw[if_neg aty,if_pos c];exact⟨λq=>(by cases q),λq=>by obtain⟨y,a,b⟩:=c;exact(q.2 y a b).elim⟩
  .have f:∀y∈p,y.name≠s.name:=λy a b=>c ⟨y,a,b⟩;rw[if_neg aty,if_neg c];have e:(eJ s.size 1 150&&(eJ s.ff 1 90&&(eJ s.cX 1 90&&decide (s.ff<=s.cX))))=((eJ s.size 1 150&&(eJ s.ff 1 90&&eJ s.cX 1 90))&&decide (s.ff<=s.cX)):=by simp[Bool.and_assoc]
   rw[e];cases g:(eJ s.size 1 150&&(eJ s.ff 1 90&&eJ s.cX 1 90))with
   |false=>simp
   |true=>
    by_cases d:s.ff<=s.cX
    .simp[d];exact f
    .simp[d]
def Mf:∀{l p:List fU},mI p->(mI (p++l)↔ji oF p l=0)
 | [],p,h=>by simp[ji,h]
 |x::l,p,h=>by
  rw[ji];by_cases a:oF p x=0
  .rw[if_pos a,<- Mf (l:=l) (EZ.2 ⟨h,TX.1 a⟩)];simp
  .rw[if_neg a];refine⟨λq=>(a (TX.2 ?_)).elim,λq=>(a q).elim⟩;have:=q.take (p.length+1);have e:(p++x::l).take (p.length+1)=p++[x]:=by rw[aAv];rfl
   rw[e]at this;exact(EZ.1 this).2
def Mg:∀{l p:List fV},mJ p->(mJ (p++l)↔ji nc p l=0)
 | [],p,h=>by simp[ji,h]
 |x::l,p,h=>by
  rw[ji];by_cases a:nc p x=0
  .rw[if_pos a,<- Mg (l:=l) (E0.2 ⟨h,TY.1 a⟩)];simp
  .rw[if_neg a];refine⟨λq=>(a (TY.2 ?_)).elim,λq=>(a q).elim⟩;have:=q.take (p.length+1);have e:(p++x::l).take (p.length+1)=p++[x]:=by rw[aAv];rfl
   rw[e]at this;exact(E0.1 this).2
def Ground.jj(y:Ground):Int:=if y.db.length<=4 then ji oF [] y.db else 2
def Ground.nd(y:Ground):Int:=if y.c7.length<=6 then ji nc [] y.c7 else 2
def Ground.dr(y:Ground):Int:=if y.jj=0 then y.nd else y.jj
def Ground.Mh{y:Ground}:y.jj=0↔y.db.length<=4/\mI y.db:=by
 unfold Ground.jj;by_cases h:y.db.length<=4
 .rw[if_pos h,<- Mf (p:=[]) (by simp[mI])];simp[h]
 .rw[if_neg h];simp[h]
def Ground.Mi{y:Ground}:y.nd=0↔y.c7.length<=6/\mJ y.c7:=by
 unfold Ground.nd;by_cases h:y.c7.length<=6
 .rw[if_pos h,<- Mg (p:=[]) (by simp[mJ])];simp[h]
 .rw[if_neg h];simp[h]
def Ground.uO{y:Ground}:y.dr=0↔y.dF:=by
 have key:y.dr=0↔y.jj=0/\y.nd=0:=by
  unfold Ground.dr;by_cases h:y.jj=0
  .rw[if_pos h];simp[h]
  .rw[if_neg h];simp[h]
 rw[key,Ground.Mh,Ground.Mi];constructor
 .rintro⟨⟨a,b⟩,c,d⟩;exact⟨a,b,c,d⟩
 .intro q;exact⟨⟨q.ns,q.st⟩,q.wF,q.wx⟩
def Ground.yK{y:Ground}{f:Int}(h:y.jj=f)(a:f≠0):y.dr=f:=by unfold Ground.dr;rw[h,if_neg a]
def Ground.AT{y:Ground}{f:Int}(h:y.jj=0)(a:y.nd=f):y.dr=f:=by unfold Ground.dr;rw[if_pos h,a]
def TZ{y:Ground}{vs:List fU}(e:y.db=vs)(n:vs.length>4):y.jj=2:=by unfold Ground.jj;rw[e,if_neg U]
def T8{y:Ground}{vs:List fV}(e:y.c7=vs)(n:vs.length>6):y.nd=2:=by unfold Ground.nd;rw[e,if_neg U]
def T9{y:Ground}{vs:List fU}{i:Nat}(e:y.db=vs)(n:¬vs.length>4)(a:mI (vs.take i))(hi:i<vs.length){f:Int}(b:oF (vs.take i) vs[i]=f)(h0:f≠0):y.jj=f:=by unfold Ground.jj;rw[e,if_pos U];exact TP ((Mf (p:=[]) (by simp[mI])).1 a) hi b h0
def Ua{y:Ground}{vs:List fV}{i:Nat}(e:y.c7=vs)(n:¬vs.length>6)(a:mJ (vs.take i))(hi:i<vs.length){f:Int}(b:nc (vs.take i) vs[i]=f)(h0:f≠0):y.nd=f:=by unfold Ground.nd;rw[e,if_pos U];exact TP ((Mg (p:=[]) (by simp[mJ])).1 a) hi b h0
section
variable{main:Bool}{ai:Type}{S:Sys ai}{s:ai}{h:ae}
def Ub:bz pv 14=J:=O
def dE.AU{v:o5}{l:List Int}(q:ig h v l):∃b o c,v=.slice b l.length c/\(l.length=0\/∃m,b=C ⟨m,o,o0⟩/\∃arr q f w,h m=C ⟨.cells arr q f,w⟩/\∀i (hi:i<l.length),arr[o+i]? =C (.int .i64 l[i])):=by obtain⟨b,o,n,c,rfl,a,hb⟩:=q;simp only[atJ]at a;subst a;refine⟨b,o,c,rfl,hb.imp id λ⟨m,e,arr,q,f,w,g,d⟩=>⟨m,e,arr,q,f,w,g,λi hi=> ?_⟩⟩;have:=d i [bO l[i]] (by simp[hi]) 0 _ rfl;simpa[bO]using this
def dE.AV{v:o5}{l:List (Int×Int)}(q:rW h v l):∃b o c,v=.slice b l.length c/\(l.length=0\/∃m,b=C ⟨m,o,o0⟩/\∃arr q f w,h m=C ⟨.cells arr q f,w⟩/\∀i (hi:i<l.length),arr[o+i*2]? =C (.int .i64 l[i].1)/\arr[o+i*2+1]? =C (.int .i64 l[i].2)):=by obtain⟨b,o,n,c,rfl,a,hb⟩:=q;simp only[atJ]at a;subst a;refine⟨b,o,c,rfl,hb.imp id λ⟨m,e,arr,q,f,w,g,d⟩=>⟨m,e,arr,q,f,w,g,λi hi=> ?_⟩⟩;have:=d i [bO l[i].1,bO l[i].2] (by simp[hi]);exact⟨this 0 _ rfl,this 1 _ rfl⟩
def Uc{v:o5}{x:bY}(hv:k7 h v x):bo pv main S 14 #[v] s h λs' h' z=>s'=s/\h.ar h'/\z=.int .i64 x.dr:=by
 refine bL (args:=[v]) Tryz.func14 (by delta Tryz.f14;rfl) Tryz.ntmps14 Y O ?_;obtain⟨v1,v2,rfl,⟨B,de,ca⟩,E,ds,cb⟩:=hv;obtain⟨p,o,c,rfl,hp⟩:=de.one;obtain⟨r,u,d,rfl,hr⟩:=ds.one;simp only[ah,seval,bO];intro c1 h1 dA e1;have L:=bU dA e1;have g1:=bw e1;simp only[ah,seval,g1];have done:∀(q:Int) (e:Env) (h3:ae),h.ar h3->e 2=.int .i64 q->x.dr=q->dT pv Tryz.f14 (λs' h' z=>s'=s/\h.ar h'/\z=.int .i64 x.dr) 80 e [] s h3:=λq e h3 l3 e4 F=>
  bu Tryz.results14 Y ⟨rfl,l3,by rw[e4,F]⟩
 have ly:=ca.1;have ls:=cb.1;refine ev oB (oC _ _ _ _ _) ?_;cases cQ:(decide ((1:Int)<=B.length)&&decide ((B.length:Int)<=3))with
 |false=>simp only[ah,seval];refine done 2 _ _ L atA (bY.Me ?_ aty);unfold bY.ky;rw[if_neg];simp at cQ;omega
 |true=>
 have cc:1<=B.length/\B.length<=3:=by simp at cQ;omega
 simp only[ah,seval];refine du (I:=λk e d sx K=>∃i:Nat,k=B.length- i/\i<=B.length/\e 1=aV c1 0/\e 3=.int .i64 i/\d=[]/\sx=s/\h1.ar K/\∀l∈x.b2.take i,l.length=4/\∀n∈l,nP n=J) (λk e d sx K M=> ?_) (m:=B.length) ⟨0,Y,U,atA,atA,rfl,rfl,λ_ _ q=>q,Y⟩;obtain⟨i,rfl,ea,D,Q,rfl,N,y,ha⟩:=M;subst N;have k1:=y _ _ g1;simp only[ah,seval,D,Q,k1];rcases vy i B.length with hc|hc
 .obtain⟨mb,rfl,arr,q,f,w,hm,bm⟩:=hp.resolve_left U;have da:=bm i hc;have gm:=y _ _ (L _ _ hm);have X:i<x.b2.length:=U
  have A:=dE.le (L.ay y) (ca.2 i B[i] x.b2[i] Y Y);obtain⟨a1,o1,dH,aA,aI⟩:=dE.AU A;simp only[ah,seval,decide_eq_true (U:(i:Int)<B.length),D,Q,k1,gm,da,aA];have bp:x.b2[i]∈x.b2:=N0 X;have ab:x.b2.take (i+1)=x.b2.take i++[x.b2[i]]:=Y
  have R:∀f,oZ x.b2[i]=f->f≠0->x.dr=f:=λf a b=>bY.Me (bY.alZ (ly▸cc) ha X a b) b;generalize x.b2[i]=t at aI bp ab R ⊢;by_cases F:t.length=4
  case neg=>
   have W:((t.length:Int) != 4)=J:=atB
   simp only[ah,seval,W];exact done 2 _ _ (L.ay y) atA (R _ (EX F) aty)
  have W:((t.length:Int) != 4)=q9:=atB
  simp only[ah,seval,W];refine du (I:=λk e d s2 h2=>∃j:Nat,k=4- j/\j<=4/\e 1=aV c1 0/\e 3=.int .i64 i/\e 4=.slice a1 t.length dH/\e 5=.int .i64 j/\d=[]/\s2=sx/\K.ar h2/\∀n∈t.take j,nP n=J) (λk e d s2 h2 M=> ?_) (m:=4) ⟨0,Y,U,by simp[ak,D],by simp[ak,Q],atA,atA,rfl,rfl,λ_ _ q=>q,Y⟩;obtain⟨j,rfl,hj,ad,af,ag,P,rfl,N,G,hb⟩:=M;subst N;simp only[ah,seval,P];rcases vy j 4 with bs|bs
  .obtain⟨ec,rfl,ed,q2,dQ,w2,bt,b0⟩:=aI.resolve_left U;have y1:=b0 j U;have ym:=G _ _ bt;simp only[ah,seval,decide_eq_true (U:(j:Int)<4),ag,P,decide_eq_true (U:(j:Int)<t.length),ym,y1];refine ev oB (oC _ _ _ _ _) ?_;cases hn:(decide ((0:Int)<=t[j])&&decide (t[j]<=999))with
   |false=>simp only[ah,seval];exact done 1 _ _ (L.ay (y.ay G)) atA (R _ (EY F (N0 (U:j<t.length)) hn) aty)
   |true=>
    simp only[ah,seval,P];refine⟨_,?_,j+1,rfl,U,by simp[ad],by simp[af],by simp[ag],by simp[cq (x:=(j:Int)+1) U U],G,λl g=> ?_⟩
    .omega
    .rw[atC,D3]at g;rcases g with g|g
     .exact hb l g
     .simp[(U:j<t.length)]at g;subst g;exact hn
  .have:j=4:=U
   subst this;simp only[ah,seval,af];refine⟨_,?_,i+1,rfl,U,by simp[ad],by simp[cq (x:=(i:Int)+1) U U],y.ay G,λl g=> ?_⟩
   .omega
   .rw[ab,D3]at g;rcases g with g|g
    .exact ha l g
    .rw[auJ]at g;subst g;rw[aw4 U]at hb;exact⟨F,hb⟩
 simp only[ah,seval,decide_eq_false (U:¬(i:Int)<B.length),D,k1];have b5:i=B.length:=U
 rw[b5,ly,N3]at ha;have a6:x.ky=0:=bY.TQ.2 ⟨ly▸cc,ha⟩;by_cases n4:E.length>4
 .simp only[ah,seval,decide_eq_true (U:(E.length:Int)>4)];exact done 2 _ _ (L.ay y) atA (bY.yK a6 (by unfold bY.kM;rw[if_neg U]) aty)
 simp only[ah,seval,decide_eq_false (U:¬(E.length:Int)>4)];have H:=L.ay y;have k9:=k1;generalize ef:K=h9 at H k9 ⊢;clear ef k1;refine du (I:=λk e d gA K=>∃i:Nat,k=E.length- i/\i<=E.length/\e 1=aV c1 0/\e 6=.int .i64 i/\d=[]/\gA=sx/\h9.ar K/\∀l∈x.cf.take i,l.length=4/\∀n∈l,na n 0 999=J) (λk e d gA K M=> ?_) (m:=E.length) ⟨0,Y,U,by simp[ak,D],atA,rfl,rfl,λ_ _ q=>q,Y⟩;obtain⟨i,rfl,ea,D,Q,rfl,N,y,bh⟩:=M;subst N;have k8:=y _ _ k9;simp only[ah,seval,D,Q,k8];rcases vy i E.length with hc|hc
 .obtain⟨mb,rfl,arr,q,f,w,hm,bm⟩:=hr.resolve_left U;have da:=bm i hc;have gm:=y _ _ (H _ _ hm);have X:i<x.cf.length:=U
  have A:=dE.le (H.ay y) (cb.2 i E[i] x.cf[i] Y Y);obtain⟨a1,o1,dH,aA,aI⟩:=dE.AV A;simp only[ah,seval,decide_eq_true (U:(i:Int)<E.length),D,Q,k8,gm,da,aA];have bp:x.cf[i]∈x.cf:=N0 X;have ab:x.cf.take (i+1)=x.cf.take i++[x.cf[i]]:=Y
  have R:∀f,o7 x.cf[i]=f->f≠0->x.dr=f:=λf a b=>bY.yK a6 (bY.al0 U bh X a b) b;generalize x.cf[i]=t at aI bp ab R ⊢;by_cases F:t.length=4
  case neg=>
   have W:((t.length:Int) != 4)=J:=atB
   simp only[ah,seval,W];exact done 2 _ _ (H.ay y) atA (R _ (EX F) aty)
  have W:((t.length:Int) != 4)=q9:=atB
  simp only[ah,seval,W];refine du (I:=λk e d s2 h2=>∃j:Nat,k=4- j/\j<=4/\e 1=aV c1 0/\e 6=.int .i64 i/\e 7=.slice a1 t.length dH/\e 8=.int .i64 j/\d=[]/\s2=gA/\K.ar h2/\∀n∈t.take j,na n 0 999=J) (λk e d s2 h2 M=> ?_) (m:=4) ⟨0,Y,U,by simp[ak,D],by simp[ak,Q],atA,atA,rfl,rfl,λ_ _ q=>q,Y⟩;obtain⟨j,rfl,hj,ad,af,ag,P,rfl,N,G,hb⟩:=M;subst N;simp only[ah,seval,P];rcases vy j 4 with bs|bs
  .obtain⟨ec,rfl,ed,q2,dQ,w2,bt,b0⟩:=aI.resolve_left U;obtain⟨y1,y2⟩:=b0 j U;have ym:=G _ _ bt;simp only[ah,seval,decide_eq_true (U:(j:Int)<4),ag,P,decide_eq_true (U:(j:Int)<t.length),ym,y1,y2];refine cd ae9 (alA t[j] 0 999) λs4 h4 v4 ⟨q1,q4,q5⟩=> ?_;subst q1;subst q5;cases hn:na t[j] 0 999 with
   |false=>simp only[ah,seval];exact done 1 _ _ (H.ay (y.ay (G.ay q4))) atA (R _ (EY F (N0 (U:j<t.length)) hn) aty)
   |true=>
    simp only[ah,seval,P];refine⟨_,?_,j+1,rfl,U,by simp[ad],by simp[af],by simp[ag],by simp[cq (x:=(j:Int)+1) U U],G.ay q4,λl g=> ?_⟩
    .omega
    .rw[atC,D3]at g;rcases g with g|g
     .exact hb l g
     .simp[(U:j<t.length)]at g;subst g;exact hn
  .have:j=4:=U
   subst this;simp only[ah,seval,af];refine⟨_,?_,i+1,rfl,U,by simp[ad],by simp[cq (x:=(i:Int)+1) U U],y.ay G,λl g=> ?_⟩
   .omega
   .rw[ab,D3]at g;rcases g with g|g
    .exact bh l g
    .rw[auJ]at g;subst g;rw[aw4 U]at hb;exact⟨F,hb⟩
 simp only[ah,seval,decide_eq_false (U:¬(i:Int)<E.length),D,k8];have b5:i=E.length:=U
 rw[b5,ls,N3]at bh;have b6:x.kM=0:=bY.TR.2 ⟨U,bh⟩;refine ev oB (oC _ _ _ _ _) ?_;cases n5:(decide ((0:Int)<=x.cW)&&decide (x.cW<=9999))with
 |false=>simp only[ah,seval];exact done 1 _ _ (H.ay y) atA (bY.AS a6 b6 (by unfold bY.nQ;rw[n5,if_neg Y]))
 |true=>
 simp only[ah,seval,D,k8];refine ev oB (oC _ _ _ _ _) ?_;cases n6:(decide ((0:Int)<=x.cS)&&decide (x.cS<=4))with
 |false=>simp only[ah,seval];exact done 1 _ _ (H.ay y) atA (bY.AS a6 b6 (by unfold bY.nQ;rw[n6,if_neg Y]))
 |true=>
 simp only[ah,seval];exact done 0 _ _ (H.ay y) atA (bY.AS a6 b6 (bY.Md.2 ⟨n5,n6⟩))
end
section
variable{main:Bool}{ai:Type}{S:Sys ai}{s:ai}{h:ae}
def al1:bz pv 49=J:=O
def Ud:bz pv 50=J:=O
def al2{v:o5}{x:Ground}(hv:kL h v x):bo pv main S 49 #[v] s h λs' h' z=>s'=s/\h.ar h'/\z=.int .i64 x.jj:=by
 refine bL (args:=[v]) Tryz.func49 (by delta Tryz.f49;rfl) Tryz.ntmps49 Y O ?_;obtain⟨v1,v2,rfl,b9,ds⟩:=hv;obtain⟨p,o,c,rfl,hp⟩:=b9.four;generalize P:x.db=g at*
 simp only[ah,seval];intro c1 h1 cb e1;have A:=bU cb e1;have g1:=bw e1;simp only[ah,seval,g1];have done:∀(q:Int) (e:Env) (h3:ae),h.ar h3->e 2=.int .i64 q->x.jj=q->dT pv Tryz.f49 (λs' h' z=>s'=s/\h.ar h'/\z=.int .i64 x.jj) 56 e [] s h3:=λq e h3 l3 M K=>
  bu Tryz.results49 Y ⟨rfl,l3,by rw[M,K]⟩
 by_cases n4:g.length>4
 .simp only[ah,seval,decide_eq_true (U:(g.length:Int)>4)];exact done 2 _ _ A atA (TZ P n4)
 simp only[ah,seval,decide_eq_false (U:¬(g.length:Int)>4)];refine du (I:=λk e d Q a6=>∃i:Nat,k=g.length- i/\i<=g.length/\e 1=aV c1 0/\e 3=.int .i64 i/\d=[]/\Q=s/\h1.ar a6/\mI (g.take i)) (λk e d Q a6 R=> ?_) (m:=g.length) ⟨0,Y,U,atA,atA,rfl,rfl,λ_ _ q=>q,by simp[mI]⟩;obtain⟨i,rfl,dt,W,e5,rfl,X,r,L⟩:=R;subst X;have k1:=r _ _ g1;simp only[ah,seval,W,e5,k1];rcases vy i g.length with hc|hc
 .obtain⟨mb,rfl,arr,q,f,w,hm,bh⟩:=hp.resolve_left U;obtain⟨a0,a1,a2,a3⟩:=bh i hc;simp only[bO]at a1 a2 a3;have gm:=r _ _ (A _ _ hm);simp only[ah,seval,decide_eq_true (U:(i:Int)<g.length),W,e5,k1,gm,a0,a1,a2,a3];intro c3 h3 ab e3;have g3:=bw e3;simp only[ah,seval,g3];intro h4 M;have N:=bw M;have B:a6.ar h4:=dM (bU ab e3) ab M;have k4:=B _ _ k1;clear e3 g3 ab;have bl:g.take (i+1)=g.take i++[g[i]]:=Y
  have F:∀f,oF (g.take i) g[i]=f->f≠0->x.jj=f:=λf a b=>T9 P n4 L hc a b;generalize g[i]=u at N bl F ⊢;simp only[ah,seval,N];refine ev Ud (TB _ _ _) ?_;cases E:gR u.name with
  |false=>simp only[ah,seval];exact done 4 _ _ (A.ay (r.ay B)) atA (F _ (TS E) aty)
  |true=>
  simp only[ah,seval];refine du (I:=λk e d s2 H=>∃j:Nat,k=i- j/\j<=i/\e 1=aV c1 0/\e 3=.int .i64 i/\e 4=aV c3 0/\e 5=.int .i64 j/\d=[]/\s2=Q/\h4.ar H/\∀y∈g.take j,y.name≠u.name) (λk e d s2 H R=> ?_) (m:=i) ⟨0,Y,U,by simp[ak,W],by simp[ak,e5],atA,atA,rfl,rfl,λ_ _ q=>q,Y⟩;obtain⟨j,rfl,hj,ad,af,G,ag,rfl,X,n,hb⟩:=R;subst X;simp only[ah,seval,ag,af];rcases vy j i with cl|cl
  .simp only[ah,seval,decide_eq_true (U:(j:Int)<i),fI];have bm:j<g.length:=U
   obtain⟨b0,_⟩:=bh j bm;have gc:∀h,H.ar h->h c1=_:=λh le=>le _ _ (n _ _ k4);have cm:∀h,H.ar h->h c3=_:=λh le=>le _ _ (n _ _ N);have cp:∀h,H.ar h->h mb=_:=λh le=>le _ _ (n _ _ (B _ _ gm));have bd:decide ((j:Int)<g.length)=J:=atB
   intro t;refine kv eR O O ?_ t
   repeat refine gF (λh1 le=>by simp only[ah,seval,cJ,le,ad,G,ag,gc,cm,cp,b0,bd,gg];exact⟨λ_ _ q=>q,rfl⟩) ?_
   rw[jN];intro h5 bn;cases K:(g[j].name==u.name)with
   |true=>simp only[ah,seval];refine done 5 _ _ (A.ay (r.ay (B.ay (n.ay bn)))) atA (F _ (TT E ⟨g[j],?_,by simpa using K⟩) aty);exact List.mem_take_iff_getElem.2 ⟨j,U,rfl⟩
   |false=>
    simp only[ah,seval,ag];refine⟨_,?_,j+1,rfl,U,by simp[ad],by simp[af],by simp[G],by simp[cq (x:=(j:Int)+1) U U],n.ay bn,λl D=> ?_⟩
    .omega
    .rw[atC,D3]at D;rcases D with D|D
     .exact hb l D
     .simp[bm]at D;subst D;simpa using K
  .have:j=i:=U
   subst this;have g6:=n _ _ N;simp only[ah,seval,decide_eq_false (U:¬(j:Int)<j),G,g6];refine ev oB (oC _ _ _ _ _) ?_;cases q2:(decide ((1:Int)<=u.cX)&&decide (u.cX<=90))with
   |false=>simp only[ah,seval];exact done 1 _ _ (A.ay (r.ay (B.ay n))) atA (F _ (yL E hb (by simp only[eJ,q2,auH])) aty)
   |true=>
   simp only[ah,seval,G,g6];refine ev oB (oC _ _ _ _ _) ?_;cases q3:(decide ((1:Int)<=u.size)&&decide (u.size<=150))with
   |false=>simp only[ah,seval];exact done 1 _ _ (A.ay (r.ay (B.ay n))) atA (F _ (yL E hb (by simp only[eJ,q3,auH,auV])) aty)
   |true=>
   simp only[ah,seval,G,g6];refine ev oB (oC _ _ _ _ _) ?_;cases q4:(decide ((0:Int)<=u.gS)&&decide (u.gS<=4))with
   |false=>simp only[ah,seval];exact done 1 _ _ (A.ay (r.ay (B.ay n))) atA (F _ (yL E hb (by simp only[eJ,q4,auV])) aty)
   |true=>
   simp only[ah,seval,af];refine⟨_,?_,j+1,rfl,U,by simp[ad],by simp[cq (x:=(j:Int)+1) U U],r.ay (B.ay n),?_⟩
   .omega
   .rw[bl,EZ];exact⟨L,by simp only[pQ,eJ,E,q2,q3,q4,Bool.and_self],hb⟩
 .simp only[ah,seval,decide_eq_false (U:¬(i:Int)<g.length)];have cM:i=g.length:=U
  rw[cM,N3]at L;exact done 0 _ _ (A.ay r) atA (Ground.Mh.2 (by rw[P];exact⟨U,L⟩))
end
end
end Go.Nk
