/- Part Pav of the proof of ButtTexts: lemmas. -/
import Derived.Test.YthgephlghkjiaaaGreatDoorPau
set_option maxRecDepth 100000
set_option maxHeartbeats 4000000
set_option linter.all false
namespace Go.Nk
noncomputable section
open Go Go.Conc Go.Proofs
open _root_.Array renaming range->avw,getElem?_setIfInBounds_ne->avD,getElem?_setIfInBounds_self_of_lt->axg,toList_inj->auT
open Bool renaming true->J,and_eq_true->vh,false->q9,false_eq_true->N2,or_true->aAE
open ByteArray.foldlM renaming loop->aAI
open Go renaming Value->o5,Operand->su,Program->tb,eqGuard->W2,Code->rj
open Go.Extern.BytealgCount renaming count->azf
open Go.Extern.BytealgIndexByte renaming indexByte->aAH
open Go.Instr renaming buildSlice->atX,sliceAt->K0,makeSlice->axl
open Go.IntKind renaming i64->xy,wrap->aur,bits->auQ,signed->auR,u8->ax5
open Go.Proofs.Tryz renaming prog->pv,underlying44->aw7,results8->aAG,results166->aCq,results209->aCr,results119->aCs,results185->aCt,results208->auC,underlying98->au4,results125->aAK
open List renaming getElem?_map->aw1,length_append->M3,length_cons->RF,length_nil->auM,mem_cons->B4,not_mem_nil->auo,getElem_mem->N0,append_assoc->auN,take_length->N3,length_map->atJ,range->atG,foldl_cons->axq,count_cons->aCp,length->av2,drop_drop->awb,take_add_one->atC
open Nat renaming mul_one->avV,le_trans->atD,lt_or_ge->vy,le_refl->vr,pow_le_pow_right->ayU
open Option renaming none->o0,some->C
section
variable{h h0:ae}
def anR:(avw (2*1)).map (λi=>(Value.cells (.int .i64 0))[i%(Value.cells (.int .i64 0)).size]!)=#[.int .i64 0,.int .i64 0]:=O
def anS:(avw (3*1)).map (λi=>(Value.cells (.int .i64 0))[i%(Value.cells (.int .i64 0)).size]!)=#[.int .i64 0,.int .i64 0,.int .i64 0]:=O
def U0{a b:Int}{K:o5->ae->Prop}(k:∀c h1,h c=o0->h1=h.put c ⟨.cells ⟨[bO a,bO b]⟩ 3 (0,0),J⟩->K (dn c 0 2 2) h1):@al pv _ (atX 44 2 #[(0,.int .i64 a),(1,.int .i64 b)]) h ⟨K⟩:=by simp only[al,atX,aJ,c0,aw7,gD,fe];rw[if_neg aty,if_neg aty];simp only[aJ,kH,eZ,aR,anR];intro c hc;exact k c _ hc rfl
def Fp{a b d:Int}{K:o5->ae->Prop}(k:∀c h1,h c=o0->h1=h.put c ⟨.cells ⟨[bO a,bO b,bO d]⟩ 3 (0,0),J⟩->K (dn c 0 3 3) h1):@al pv _ (atX 44 3 #[(0,.int .i64 a),(1,.int .i64 b),(2,.int .i64 d)]) h ⟨K⟩:=by simp only[al,atX,aJ,c0,aw7,gD,fe];rw[if_neg aty,if_neg aty];simp only[aJ,kH,eZ,aR,anS];intro c hc;exact k c _ hc rfl
def ig.built{c:Nat}{ns:List Int}{f:Nat×Nat}{w:Bool}(g:h c=C ⟨.cells ⟨ns.map bO⟩ 3 f,w⟩):ig h (dn c 0 ns.length ns.length) ns:=by
 refine⟨_,0,_,_,rfl,Y,.inr ⟨c,rfl,_,_,_,_,g,λi e a j x d=> ?_⟩⟩;rw[aw1]at a;cases b:ns[i]? with
 |none=>rw[b]at a;cases a
 |some n=>
  rw[b]at a;cases a;cases j with
  |zero=>cases d;simp[b]
  |succ j=>simp at d
def j8.MA{f:ae}{c:Nat}{l:List UInt8}(q:j8 h0 h c l)(le:f.ar h0):j8 f h c l:=by
 obtain⟨a,b,p,g,c1,c2,c3⟩:=q;have k:∀d,h0 d=o0->f d=o0:=λd hd=>by
  cases i:f d with
  |none=>rfl
  |some x=>rw[le _ _ i]at hd;cases hd
 refine⟨le.ay a,k c b,p,g,c1,c2,c3.mono (λd hd=> ?_) λ_ _ _ q=>q⟩;by_cases e:d=c
 .subst e;rw[cI]at hd;cases hd
 .rw[bx e]at hd ⊢;exact k d hd
def j8.nil{c:Nat}(hc:h c=o0):j8 h (h.put c ⟨.cells #[.pointer o0,.slice o0 0 0] 89 (0,0),J⟩) c []:=⟨gW hc,hc,_,_,.inl rfl,cI,.inl ⟨rfl,rfl⟩⟩
end
def MB{α β:Type}{f:α->List β}{k:Nat}:∀{l:List α},(∀a∈l,(f a).length<=k)->(l.flatMap f).length<=k*l.length
 | [],_=>by simp
 |a::l,h=>by have h1:=h a Y;have c:=MB (l:=l) (f:=f) (k:=k) λx b=>h x (by simp[b]);rw[List.flatMap_cons,M3,RF,Nat.mul_add,avV];omega
def pV:List UInt8:=[98,111,115,115]
def iY:List UInt8:=[108,97,121,101,114]
def lQ:List UInt8:=[115,101,115,115,105,111,110]
def mN:List UInt8:=[103,114,111,117,110,100]
def nT:List UInt8:=[115,116,97,110,100]
def nU:List UInt8:=[97,114,99,104,101,114]
def nh(p:Int×Int):List UInt8:=dJ p.1++if p.1<p.2 then[46,46]++dJ p.2 else[]
def mO(l:List (Int×Int)):List UInt8:=l.flatMap λp=>32::nh p
def kQ(l:List (Int×Int)):List UInt8:=lQ++mO l++[10]
def kR(s:fU):List UInt8:=gB (nT++32::s.name) [s.cX,s.size,s.gS]
def kz(s:fV):List UInt8:=gB (nU++32::s.name) [s.size,s.ff,s.cX]
def tz(x:bY)(y:Ground):List UInt8:=gB pV [x.cW,x.cS]++(x.b2.flatMap (gB iY)++(x.cf.flatMap kQ++(gB mN []++(y.db.flatMap kR++y.c7.flatMap kz))))
def pW{w:List UInt8}{ns:List Int}:(gB w ns).length<=w.length+5*ns.length+1:=by have:=Fo ns;simp only[gB,M3,RF,auM];omega
def U1{p:Int×Int}:(nh p).length<=10:=by have:=@qV p.1.toNat;have:=@qV p.2.toNat;unfold nh;split<;>simp only[M3,RF,auM,dJ]<;>omega
def MC{l:List (Int×Int)}:(mO l).length<=11*l.length:=MB λp _=>by have:=@U1 p;simp only[RF];omega
def Fq{l:List (Int×Int)}:(kQ l).length<=11*l.length+8:=by have:=@MC l;simp only[kQ,lQ,M3,RF,auM];omega
def U2{n lo hi:Int}:eJ n lo hi=J↔lo<=n/\n<=hi:=by simp[eJ]
def gY(x:bY)(y:Ground):Int:=if x.dr=0 then y.dr else x.dr
def U3{x:bY}{y:Ground}:gY x y=0↔x.dF/\y.dF:=by
 unfold gY;by_cases h:x.dr=0
 .rw[if_pos h,Ground.uO];exact⟨λq=>⟨bY.uO.1 h,q⟩,λq=>q.2⟩
 .rw[if_neg h];exact⟨λq=>(h q).elim,λq=>(h (bY.uO.2 q.1)).elim⟩
def bY.dF.n4{x:bY}(q:x.dF):(nS x.cW/\nS x.cS)/\(∀l∈x.b2,∀n∈l,nS n)/\∀l∈x.cf,∀p∈l,nS p.1/\nS p.2:=by
 have h1:=q.cg;have b:=q.gr;simp only[vh,decide_eq_true_eq]at h1 b;refine⟨⟨⟨h1.1,U⟩,b.1,U⟩,λl a n c=> ?_,λl a p d=> ?_⟩
 .have:=(q.uM l a).2 n c;simp only[nP,vh,decide_eq_true_eq]at this;exact⟨this.1,U⟩
 .have:=(q.load l a).2 p d;simp only[na,vh,decide_eq_true_eq]at this;exact⟨⟨this.1.1,U⟩,this.2.1.1,U⟩
def U4{s:fU}(q:pQ s=J):∀n∈[s.cX,s.size,s.gS],nS n:=by simp only[pQ,vh,U2]at q;intro n a;simp only[B4,auo,or_false]at a;unfold nS;rcases a with rfl|rfl|rfl<;>omega
def U5{s:fV}(q:pR s=J):∀n∈[s.size,s.ff,s.cX],nS n:=by simp only[pR,vh,U2]at q;intro n a;simp only[B4,auo,or_false]at a;unfold nS;rcases a with rfl|rfl|rfl<;>omega
def qW{α β:Type}{f:α->List β}{k m i:Nat}{l:List α}(h:∀a∈l,(f a).length<=k)(c:l.length<=m):((l.take i).flatMap f).length<=k*m:=by refine atD (MB λa b=>h a (List.mem_of_mem_take b)) (Nat.mul_le_mul_left _ ?_);simp;omega
def ig.nil{h:ae}:ig h (.slice o0 0 0) []:=⟨o0,0,0,0,rfl,rfl,.inl rfl⟩
def fh{h0 h:ae}{d:Nat}(le:h0.ar h)(hd:h d=o0):h0 d=o0:=by
 cases a:h0 d with
 |none=>rfl
 |some x=>rw[le _ _ a]at hd;cases hd
section
variable{main:Bool}{ai:Type}{S:Sys ai}{s:ai}{h:ae}
def anT{v w:o5}{x:bY}{y:Ground}(hv:k7 h v x)(hw:kL h w y)(hf:x.fits)(hg:y.fits)(ht:tv h)(h4:nR h):bo pv main S 8 #[v,w] s h λs' h' z=>s'=s/\h.ar h'/\((x.dF/\y.dF)/\z=.tuple #[au (tz x y),.int .i64 0]\/gY x y≠0/\z=.tuple #[au [],.int .i64 (gY x y)]):=by
 refine bL (args:=[v,w]) Tryz.func8 (by delta Tryz.f8;rfl) Tryz.ntmps8 Y O ?_;obtain⟨v1,v2,aA,⟨vs,hV,gz⟩,W,hX,gI⟩:=id hv;obtain⟨w1,w2,ew,hZ,h0⟩:=id hw;rw[aA,ew];simp only[ah,seval,bO];intro c1 h1 ih e1 c2 h2 b3 E;have bh:=(bU ih e1).ay (bU b3 E);have X:=bU b3 E _ _ (bw e1);have g2:=bw E;simp only[ah,seval,X];have eG:=hv.le bh;rw[aA]at eG;refine cd Uh (Uj eG hf (ht.le bh)) λfe h3 z ⟨u,a6,q3⟩=> ?_;subst u;subst q3;simp only[ah,seval];by_cases hq:x.dr=0
 case neg=>
  have e:(x.dr != 0)=J:=by simpa using hq
  have ep:gY x y=x.dr:=by unfold gY;rw[if_neg hq]
  simp only[ah,seval,e];exact gT aAG Y Y ⟨rfl,bh.ay a6,.inr ⟨by rw[ep];exact hq,by simp[ak,ep]⟩⟩
 have e:(x.dr != 0)=q9:=by simp[hq]
 have kA:=bY.uO.1 hq;have ep:gY x y=y.dr:=by unfold gY;rw[if_pos hq]
 simp only[ah,seval,e,a6 _ _ g2];have eL:=hw.le (bh.ay a6);rw[ew]at eL;refine cd UB (UC eL hg (ht.le (bh.ay a6))) λs4 h5 z ⟨u,cM,q3⟩=> ?_;subst u;subst q3;simp only[ah,seval];by_cases c6:y.dr=0
 case neg=>
  have e:(y.dr != 0)=J:=by simpa using c6
  simp only[ah,seval,e];exact gT aAG Y Y ⟨rfl,(bh.ay a6).ay cM,.inr ⟨by rw[ep];exact c6,by simp[ak,ep]⟩⟩
 have e:(y.dr != 0)=q9:=by simp[c6]
 have pe:=Ground.uO.1 c6;simp only[ah,seval,e];clear eG eL e hq c6 ep;have bk:=(bh.ay a6).ay cM;have e0:=(a6.ay cM) _ _ X;have ed:=(a6.ay cM) _ _ g2;clear X g2;have b0:=h4.le bk;clear bh a6 cM;intro G h6 il t;have B0:j8 h5 h6 G []:=by subst t;exact j8.nil il
 have X:=B0.1 _ _ e0;have g2:=B0.1 _ _ ed;simp only[ah,seval,X];refine U0 λc h7 hc g=> ?_;simp only[ah,seval,mK,yS];have k4:=kA.n4;subst g;refine(yT (w:=pV) (ns:=[x.cW,x.cS]) (B0.bS hc) (ig.built (ns:=[x.cW,x.cS]) cI) (by intro n hn;simp at hn;rcases hn with rfl|rfl;exact k4.1.1;exact k4.1.2) (b0.le (gW (fh B0.1 hc))) aty Y).mono λs7 h7 z ⟨u,ho⟩=> ?_;subst u;have B1:=ho.MA (gW (fh B0.1 hc));clear ho;have X:=B1.1 _ _ e0;simp only[ah,seval,X];obtain⟨p,o,cp,rfl,hp⟩:=(hV.le bk).one;simp only[ah,seval];have aW:=gz.1;have ll:=kA.lay;obtain⟨eb,hT⟩:∃eb,eb=gB pV [x.cW,x.cS]:=⟨_,rfl⟩;have lT:eb.length<=20:=by rw[hT];exact atD pW (by simp[pV])
 rw[List.nil_append,<- hT]at B1;refine du (I:=λk e d sx N=>∃i:Nat,k=vs.length- i/\i<=vs.length/\e 2=aV c1 0/\e 3=aV c2 0/\e 8=aV G 0/\e 9=dO 34 [aV G 0]/\e 40=.slice p vs.length cp/\e 41=.int .i64 vs.length/\e 42=.int .i64 i/\d=[]/\sx=s7/\j8 h5 N G (eb++(x.b2.take i).flatMap (gB iY))) (λk e d sx N hI=> ?_) (m:=vs.length) ⟨0,Y,Y,atA,atA,atA,atA,atA,atA,atA,by simpa using B1⟩;clear B1 X B0 t;obtain⟨i,rfl,hi,E,D,t,l,e5,eg,eh,rfl,rfl,B⟩:=hI;rcases vy i vs.length with hc|hc
 .obtain⟨mb,rfl,arr,q,f,w',hm,P⟩:=hp.resolve_left U;have gm:=B.1 _ _ hm;have da:=P i hc;have bd:decide ((i:Int)<vs.length)=J:=atB
  have cc:i<x.b2.length:=U
  have A:=gz.2 i vs[i] x.b2[i] Y Y;obtain⟨a1,o1,z1,dH,ek,_⟩:=id A;simp only[ah,seval,e5,eg,eh,gm,da,bd,ek];intro dk h8 Q g;have F:=bw g;have bm:=bU Q g;simp only[ah,seval,F];intro h9 g;have b5:=dM bm Q g;have F:=bw g;simp only[ah,seval,l,F,mK,yS];rw[ek]at A;have e6:=qW (f:=gB iY) (i:=i) (k:=26) (λa R=>by have:=@pW iY a;have:=(kA.uM a R).1;simp[iY]at *;omega) ll.2;refine(yT (w:=iY) (ns:=x.b2[i]) (B.le b5) (dE.le bk A) (k4.2.1 _ (N0 _)) b0 (by have:iY.length=5:=rfl;rw[M3];omega) (by have:=(kA.uM _ (N0 cc)).1;omega)).mono λjC cm z ⟨u,M⟩=> ?_;subst u;simp only[ah,seval,eh];refine⟨_,?_,i+1,rfl,U,by simp[E],by simp[D],by simp[t],by simp[l],by simp[e5],by simp[eg],by simp[cq (x:=(i:Int)+1) U U],?_⟩
  .omega
  .rw[qU cc,<- auN];exact M
 .have ag:i=x.b2.length:=U
  rw[ag,N3]at B;have X:=B.1 _ _ e0;simp only[ah,seval,E,eg,eh,decide_eq_false (U:¬(i:Int)<vs.length),X];have e6:=qW (f:=gB iY) (i:=x.b2.length) (k:=26) (λa R=>by have:=@pW iY a;have:=(kA.uM a R).1;simp[iY]at *;omega) ll.2;rw[N3]at e6;obtain⟨T2,fa⟩:∃T2,T2=eb++x.b2.flatMap (gB iY):=⟨_,rfl⟩;have lL:T2.length<=120:=by rw[fa,M3];omega
  rw[<- fa]at B;clear e6 lT hp e5 eg eh hc X ag hi;obtain⟨p2,o2,qX,rfl,hz⟩:=(hX.le bk).one;simp only[ah,seval];have lu:=gI.1;have hD:=kA.yI;refine du (I:=λk e d s' N=>∃i:Nat,k=W.length- i/\i<=W.length/\e 2=aV c1 0/\e 3=aV c2 0/\e 8=aV G 0/\e 9=dO 34 [aV G 0]/\e 52=.slice p2 W.length qX/\e 53=.int .i64 W.length/\e 54=.int .i64 i/\d=[]/\s'=sx/\j8 h5 N G (T2++(x.cf.take i).flatMap kQ)) (λk e d s' N hI=> ?_) (m:=W.length) ⟨0,Y,Y,by simp[ak,E],by simp[ak,D],by simp[ak,t],by simp[ak,l],atA,atA,atA,by simpa using B⟩;clear B E D t l;obtain⟨i,rfl,hi,E,D,t,l,bn,a8,ba,rfl,rfl,B⟩:=hI;have lS:=qW (f:=kQ) (i:=i) (k:=52) (m:=4) (λa R=>by have:=@Fq a;have:=(kA.load a R).1;omega) hD;rcases vy i W.length with hc|hc
  .obtain⟨mb,rfl,arr,q,f,w',hm,P⟩:=hz.resolve_left U;have gm:=B.1 _ _ hm;have da:=P i hc;have bd:decide ((i:Int)<W.length)=J:=atB
   have cc:i<x.cf.length:=U
   have A:=gI.2 i W[i] x.cf[i] Y Y;have l4:=(kA.load _ (N0 cc)).1;have n4:=k4.2.2 _ (N0 cc);have bs:=qU (f:=kQ) cc;generalize x.cf[i]=L at A l4 n4 bs;obtain⟨a1,o1,z1,dH,ek,hE,j3⟩:=id A;simp only[atJ]at hE;subst hE;simp only[ah,seval,bn,a8,ba,gm,da,bd,ek];intro dk h8 Q g;have F:=bw g;have bm:=bU Q g;simp only[ah,seval,F];intro h9 g;have b5:=dM bm Q g;have F:=bw g;simp only[ah,seval,F];have M:=B.le b5;clear B gm F bm g;refine du (I:=λk e d sx N=>∃j:Nat,k=L.length- j/\j<=L.length/\e 2=aV c1 0/\e 3=aV c2 0/\e 8=aV G 0/\e 9=dO 34 [aV G 0]/\e 52=.slice (C ⟨mb,o2,o0⟩) W.length qX/\e 53=.int .i64 W.length/\e 54=.int .i64 i/\e 14=au (lQ++mO (L.take j))/\e 59=.slice a1 L.length dH/\e 60=.int .i64 L.length/\e 61=.int .i64 j/\d=[]/\sx=s'/\h9.ar N) (λk e d sx N hI=> ?_) (m:=L.length) ⟨0,Y,Y,by simp[ak,E],by simp[ak,D],by simp[ak,t],by simp[ak,l],by simp[ak,bn],by simp[ak,a8],by simp[ak,ba],by simp[ak,mO,lQ],atA,atA,atA,rfl,rfl,.cO _⟩;clear E D t l bn a8 ba;obtain⟨j,rfl,hj,E,D,t,l,bn,a8,ba,fb,fc,en,eo,rfl,rfl,ck⟩:=hI;rcases vy j L.length with b3|b3
   .obtain⟨l7,rfl,hF,q3,f3,w3,j4,kg⟩:=j3.resolve_left U;have kh:=ck _ _ (M.1 _ _ (bk _ _ j4));have H:=kg j [bO L[j].1,bO L[j].2] (by simp[b3]);have a1:hF[o1+j*2]? =C (.int .i64 L[j].1):=H 0 _ rfl;have a2:hF[o1+j*2+1]? =C (.int .i64 L[j].2):=H 1 _ rfl;have kk:decide ((j:Int)<L.length)=J:=atB
    have nj:=n4 _ (N0 b3);have fl:=qU (f:=λp=>32::nh p) b3;have lj:=@MC (L.take j);have mL:(L.take j).length<=4:=atB
    generalize L[j]=r at H a1 a2 nj fl;simp only[ah,seval,fc,en,eo,kh,a1,a2,kk];intro nF cm hG g;have ec:=bw g;have fs:=bU hG g;simp only[ah,seval,ec];intro nG g;have ec:=bw g;have er:=dM fs hG g;simp only[ah,seval,ec,fb];have dH:=@qV r.1.toNat;have d2:=@qV r.2.toNat;refine cd Mv (Mz nj.1 (b0.le (M.1.ay (ck.ay er)))) λgA hQ z ⟨u,de,q3⟩=> ?_;subst u;subst q3;have A1:∀{x y:su} {h:ae} [K:KK o5],al pv (bN .add 9 x y (.string ⟨#[32]⟩) (au (dJ r.1))) h=K.f (au (32::dJ r.1)) h:=λ{x y h K}=>ma (a:=[32]) (b:=dJ r.1) (by simp[dJ];omega);have A2:∀{x y:su} {h:ae} [K:KK o5],al pv (bN .add 9 x y (au (lQ++mO (L.take j))) (au (32::dJ r.1))) h=K.f (au ((lQ++mO (L.take j))++32::dJ r.1)) h:=λ{x y h K}=>ma (by simp[dJ,lQ];omega);simp only[ah,seval,A1,A2,de _ _ ec];by_cases et:r.1<r.2
    .simp only[ah,seval,decide_eq_true (show r.2>r.1 from et),de _ _ ec];refine cd Mv (Mz nj.2 (b0.le (M.1.ay (ck.ay (er.ay de))))) λs6 n0 z ⟨u,km,q3⟩=> ?_;subst u;subst q3;have A3:∀{x y:su} {h:ae} [K:KK o5],al pv (bN .add 9 x y (.string ⟨#[46,46]⟩) (au (dJ r.2))) h=K.f (au ([46,46]++dJ r.2)) h:=λ{x y h K}=>ma (a:=[46,46]) (b:=dJ r.2) (by simp[dJ];omega);have A4:∀{x y:su} {h:ae} [K:KK o5],al pv (bN .add 9 x y (au ((lQ++mO (L.take j))++32::dJ r.1)) (au ([46,46]++dJ r.2))) h=K.f (au ((lQ++mO (L.take j))++32::dJ r.1++([46,46]++dJ r.2))) h:=λ{x y h K}=>ma (by simp[dJ,lQ];omega);simp only[ah,seval,A3,A4,eo];refine⟨_,?_,j+1,rfl,U,by simp[E],by simp[D],by simp[t],by simp[l],by simp[bn],by simp[a8],by simp[ba],?_,by simp[fc],by simp[en],by simp[cq (x:=(j:Int)+1) U U],ck.ay (er.ay (de.ay km))⟩
     .omega
     .have:mO (L.take (j+1))=mO (L.take j)++32::(dJ r.1++([46,46]++dJ r.2)):=by unfold mO;rw[fl,nh,if_pos et]
      rw[this];simp[auN]
    .simp only[ah,seval,decide_eq_false (show ¬r.2>r.1 from et),eo];refine⟨_,?_,j+1,rfl,U,by simp[E],by simp[D],by simp[t],by simp[l],by simp[bn],by simp[a8],by simp[ba],?_,by simp[fc],by simp[en],by simp[cq (x:=(j:Int)+1) U U],ck.ay (er.ay de)⟩
     .omega
     .have:mO (L.take (j+1))=mO (L.take j)++32::dJ r.1:=by unfold mO;rw[fl,nh,if_neg et,List.append_nil]
      rw[this];simp[auN]
   .have kt:j=L.length:=U
    rw[kt,N3]at fb;simp only[ah,seval,en,eo,l,fb,decide_eq_false (U:¬(j:Int)<L.length),mK,yS];have mT:=@MC L;refine(yT (w:=lQ++mO L) (ns:=[]) (M.le ck) ig.nil Y b0 (by have:lQ.length=7:=rfl;simp only[M3];omega) Y).mono λjC cm z ⟨u,B3⟩=> ?_;subst u;simp only[ah,seval,ba];refine⟨_,?_,i+1,rfl,U,by simp[E],by simp[D],by simp[t],by simp[l],by simp[bn],by simp[a8],by simp[cq (x:=(i:Int)+1) U U],?_⟩
    .omega
    .rw[bs,<- auN];have:kQ L=gB (lQ++mO L) []:=by simp[kQ,gB,qT]
     rw[this];exact B3
  .have ag:i=x.cf.length:=U
   rw[ag,N3]at B;have g2:=B.1 _ _ ed;have lS:=qW (f:=kQ) (i:=x.cf.length) (k:=52) (m:=4) (λa R=>by have:=@Fq a;have:=(kA.load a R).1;omega) hD;rw[N3]at lS;simp only[ah,seval,D,l,a8,ba,decide_eq_false (U:¬(i:Int)<W.length),mK,yS];refine(yT (w:=mN) (ns:=[]) B ig.nil Y b0 (by have:mN.length=6:=rfl;simp only[M3];omega) Y).mono λjC cm z ⟨u,B3⟩=> ?_;subst u;obtain⟨T3,ft⟩:∃T3,T3=T2++x.cf.flatMap kQ++gB mN []:=⟨_,rfl⟩;have mX:T3.length<=400:=by rw[ft,M3,M3];have:(gB mN []).length=7:=rfl;omega
   rw[<- ft]at B3;have g2:=B3.1 _ _ ed;clear B hz lS bn a8 ba hc hi ag;obtain⟨pS,eE,zS,dS,kN,hH,hJ⟩:=id (dE.le bk hZ);simp only[atJ]at hH;subst hH;subst kN;simp only[ah,seval,g2];have ls:=pe.ns;have rs:=pe.st.1;refine du (I:=λk e d sx N=>∃i:Nat,k=y.db.length- i/\i<=y.db.length/\e 3=aV c2 0/\e 8=aV G 0/\e 9=dO 34 [aV G 0]/\e 90=.slice pS y.db.length dS/\e 91=.int .i64 y.db.length/\e 92=.int .i64 i/\d=[]/\sx=jC/\j8 h5 N G (T3++(y.db.take i).flatMap kR)) (λk e d sx N hI=> ?_) (m:=y.db.length) ⟨0,Y,Y,by simp[ak,D],by simp[ak,t],by simp[ak,l],atA,atA,atA,by simpa using B3⟩;clear B3 E D t l g2;obtain⟨i,rfl,hi,D,t,l,fx,eu,ey,rfl,rfl,B⟩:=hI;have lS:=qW (f:=kR) (i:=i) (k:=40) (m:=4) (λa R=>by
    have:=@pW (nT++32::a.name) [a.cX,a.size,a.gS];have P:=rs a R;simp only[pQ,gR,vh,decide_eq_true_eq]at P;have:nT.length=5:=rfl;simp only[kR,M3,RF,auM]at*
    omega) ls
   rcases vy i y.db.length with hc|hc
   .obtain⟨mb,rfl,arr,q,f,w',hm,P⟩:=hJ.resolve_left U;have gm:=B.1 _ _ hm;have bs:=qU (f:=kR) hc;have H:=P i [au y.db[i].name,bO y.db[i].cX,bO y.db[i].size,bO y.db[i].gS] (by simp[hc]);have rk:=rs _ (N0 hc);generalize y.db[i]=z at H rk bs;have a1:arr[eE+i*4]? =C (au z.name):=H 0 _ rfl;have a2:arr[eE+i*4+1]? =C (.int .i64 z.cX):=H 1 _ rfl;have a3:arr[eE+i*4+1+1]? =C (.int .i64 z.size):=H 2 _ rfl;have a4:arr[eE+i*4+1+1+1]? =C (.int .i64 z.gS):=H 3 _ rfl;have bd:decide ((i:Int)<y.db.length)=J:=atB
    simp only[ah,seval,fx,eu,ey,gm,a1,a2,a3,a4,bd];intro dk h8 Q g;have F:=bw g;have bm:=bU Q g;simp only[ah,seval,F];intro h9 g;have b5:=dM bm Q g;have F:=bw g;have k0:z.name.length<=12:=by simp only[pQ,gR,vh,decide_eq_true_eq]at rk;omega
    have A1:∀{x y:su} {h:ae} [K:KK o5],al pv (bN .add 9 x y (.string ⟨#[115,116,97,110,100,32]⟩) (au z.name)) h=K.f (au (nT++32::z.name)) h:=λ{x y h K}=>ma (a:=[115,116,97,110,100,32]) (b:=z.name) atB;simp only[ah,seval,l,F,A1];refine Fp λc hQ b8 fz=> ?_;simp only[ah,seval,mK,yS];have M:=B.le b5;subst fz;refine(yT (w:=nT++32::z.name) (ns:=[z.cX,z.size,z.gS]) (M.bS b8) (ig.built (ns:=[z.cX,z.size,z.gS]) cI) (U4 rk) (b0.le (gW (fh M.1 b8))) (by have:nT.length=5:=rfl;simp only[M3,RF];omega) Y).mono λjC cm z ⟨u,dx⟩=> ?_;subst u;have B3:=dx.MA (gW (fh M.1 b8));clear dx;simp only[ah,seval,ey];refine⟨_,?_,i+1,rfl,U,by simp[D],by simp[t],by simp[l],by simp[fx],by simp[eu],by simp[cq (x:=(i:Int)+1) U U],?_⟩
    .omega
    .rw[bs,<- auN];exact B3
   .have ag:i=y.db.length:=U
    rw[ag,N3]at B lS;have g2:=B.1 _ _ ed;simp only[ah,seval,D,eu,ey,decide_eq_false (U:¬(i:Int)<y.db.length),g2];obtain⟨T4,gb⟩:∃T4,T4=T3++y.db.flatMap kR:=⟨_,rfl⟩;have m2:T4.length<=600:=by rw[gb,M3];omega
    rw[<- gb]at B;clear hJ lS fx eu ey hc hi ag;obtain⟨pA,eF,zA,dA,k5,hK,k6⟩:=id (dE.le bk h0);simp only[atJ]at hK;subst hK;subst k5;simp only[ah,seval];have la:=pe.wF;have ra:=pe.wx.1;refine du (I:=λk e d s' N=>∃i:Nat,k=y.c7.length- i/\i<=y.c7.length/\e 8=aV G 0/\e 9=dO 34 [aV G 0]/\e 110=.slice pA y.c7.length dA/\e 111=.int .i64 y.c7.length/\e 112=.int .i64 i/\d=[]/\s'=sx/\j8 h5 N G (T4++(y.c7.take i).flatMap kz)) (λk e d s' N hI=> ?_) (m:=y.c7.length) ⟨0,Y,Y,by simp[ak,t],by simp[ak,l],atA,atA,atA,by simpa using B⟩;clear B D t l g2;obtain⟨i,rfl,hi,t,l,hM,gf,gi,rfl,rfl,B⟩:=hI;have lS:=qW (f:=kz) (i:=i) (k:=40) (m:=6) (λa R=>by
     have:=@pW (nU++32::a.name) [a.size,a.ff,a.cX];have P:=ra a R;simp only[pR,gR,vh,decide_eq_true_eq]at P;have:nU.length=6:=rfl;simp only[kz,M3,RF,auM]at*
     omega) la
    rcases vy i y.c7.length with hc|hc
    .obtain⟨mb,rfl,arr,q,f,w',hm,P⟩:=k6.resolve_left U;have gm:=B.1 _ _ hm;have bs:=qU (f:=kz) hc;have H:=P i [au y.c7[i].name,bO y.c7[i].size,bO y.c7[i].ff,bO y.c7[i].cX] (by simp[hc]);have rk:=ra _ (N0 hc);generalize y.c7[i]=z at H rk bs;have a1:arr[eF+i*4]? =C (au z.name):=H 0 _ rfl;have a2:arr[eF+i*4+1]? =C (.int .i64 z.size):=H 1 _ rfl;have a3:arr[eF+i*4+1+1]? =C (.int .i64 z.ff):=H 2 _ rfl;have a4:arr[eF+i*4+1+1+1]? =C (.int .i64 z.cX):=H 3 _ rfl;have bd:decide ((i:Int)<y.c7.length)=J:=atB
     simp only[ah,seval,hM,gf,gi,gm,a1,a2,a3,a4,bd];intro dk h8 Q g;have F:=bw g;have bm:=bU Q g;simp only[ah,seval,F];intro h9 g;have b5:=dM bm Q g;have F:=bw g;have k0:z.name.length<=12:=by simp only[pR,gR,vh,decide_eq_true_eq]at rk;omega
     have A1:∀{x y:su} {h:ae} [K:KK o5],al pv (bN .add 9 x y (.string ⟨#[97,114,99,104,101,114,32]⟩) (au z.name)) h=K.f (au (nU++32::z.name)) h:=λ{x y h K}=>ma (a:=[97,114,99,104,101,114,32]) (b:=z.name) atB;simp only[ah,seval,l,F,A1];refine Fp λc hQ b8 fz=> ?_;simp only[ah,seval,mK,yS];have M:=B.le b5;subst fz;refine(yT (w:=nU++32::z.name) (ns:=[z.size,z.ff,z.cX]) (M.bS b8) (ig.built (ns:=[z.size,z.ff,z.cX]) cI) (U5 rk) (b0.le (gW (fh M.1 b8))) (by have:nU.length=6:=rfl;simp only[M3,RF];omega) Y).mono λjC cm z ⟨u,dx⟩=> ?_;subst u;have B3:=dx.MA (gW (fh M.1 b8));clear dx;simp only[ah,seval,gi];refine⟨_,?_,i+1,rfl,U,by simp[t],by simp[l],by simp[hM],by simp[gf],by simp[cq (x:=(i:Int)+1) U U],?_⟩
     .omega
     .rw[bs,<- auN];exact B3
    .have ag:i=y.c7.length:=U
     rw[ag,N3]at B lS;simp only[ah,seval,t,gf,gi,decide_eq_false (U:¬(i:Int)<y.c7.length)];have eT:T4++y.c7.flatMap kz=tz x y:=by simp only[gb,ft,fa,hT,tz,auN]
     have lE:0<(T4++y.c7.flatMap kz).length:=by rw[eT,tz,gB];simp[pV]
     refine cd anP (anQ B lE (by rw[M3];omega)) λjC cm z ⟨u,fs,q3⟩=> ?_;subst u;subst q3;simp only[ah,seval];refine gT aAG Y Y ⟨rfl,bk.ay fs,.inl ⟨⟨kA,pe⟩,?_⟩⟩;rw[<- eT];simp[ak]
end
def nV(w:UInt8):List UInt8->Option Nat
 | []=>o0
 |x::l=>if x==w then C 0 else(nV w l).map (· +1)
def mj(w:UInt8)(l:List UInt8):Int:=match nV w l with|some i=>i|none=> -1
def Fs{w:UInt8}:∀{l:List UInt8},nV w l=o0↔∀x∈l,(x==w)=q9
 | []=>by simp[nV]
 |x::l=>by
  rw[nV];cases b:(x==w)with
  |true=>exact⟨λq=>(by cases q),λq=>by have:=q x Y;rw[b]at this;cases this⟩
  |false=>simp only[N2,if_false,Option.map_eq_none_iff,Fs (l:=l)];exact⟨λq y a=>(B4.1 a).elim (λe=>by rw[e];exact b) (q y),λq y a=>q y (by simp[a])⟩
def Ft{w:UInt8}:∀{l:List UInt8} {i:Nat},nV w l=C i->∃a b,l=a++w::b/\a.length=i/\∀x∈a,(x==w)=q9
 | [],i,h=>by cases h
 |x::l,i,h=>by
  rw[nV]at h;cases c:(x==w)with
  |true=>rw[c]at h;cases h;exact⟨[],l,by rw[beq_iff_eq.1 c];rfl,rfl,Y⟩
  |false=>
   rw[c]at h;cases d:nV w l with
   |none=>rw[d]at h;cases h
   |some j=>
    rw[d]at h;cases h;obtain⟨a,b,e1,e2,e3⟩:=Ft d;refine⟨x::a,b,by rw[e1];rfl,by simp[e2],λy e=> ?_⟩;rcases B4.1 e with q|q
    .rw[q];exact c
    .exact e3 y q
def anU(l:List UInt8)(i:Nat):(⟨⟨l⟩⟩:ByteArray)[i]! =(l[i]?).getD default:=by
 have b:(⟨⟨l⟩⟩:ByteArray)[i]? =l[i]? :=by
  rcases vy i l.length with a|a
  .rw[List.getElem?_eq_getElem a,getElem?_pos (⟨⟨l⟩⟩:ByteArray) i a];rfl
  .rw[List.getElem?_eq_none a,getElem?_neg (⟨⟨l⟩⟩:ByteArray) i (by show ¬i<l.length;omega)]
 rw[getElem!_def,b];cases l[i]? <;>rfl
def U6(w:UInt8):∀l:List UInt8,((atG l.length).find? λi=>(l[i]?).getD default==w)=nV w l
 | []=>rfl
 |x::l=>by
  rw[RF,List.range_succ_eq_map,List.find?_cons,nV];have e0:(((x::l)[0]?).getD default==w)=(x==w):=rfl;rw[e0];cases a:(x==w)with
  |true=>rfl
  |false=>
   rw[List.find?_map];have:((λi=>((x::l)[i]?).getD default==w)∘Nat.succ)=λi=>(l[i]?).getD default==w:=by funext i;simp
   rw[this,U6 w l];rfl
section
variable{P:tb}{h:ae}
def anV{l:List UInt8}{w:UInt8}{K:o5->ae->Prop}(k:K (.int .i64 (mj w l)) h):@al P _ (aAH #[au l,.int .u8 w.toNat]) h ⟨K⟩:=by
 have e:aAH #[au l,.int .u8 w.toNat]=pure (.int .i64 (mj w l)):=by
  show(match((atG (⟨⟨l⟩⟩:ByteArray).size).find? λi:Nat=>(⟨⟨l⟩⟩:ByteArray)[i]! ==((w.toNat:Int).toNat.toUInt8))with|some i=>pure (goInt i)|none=>pure (goInt (-1)):Sem o5)=_;have a:((w.toNat:Int).toNat.toUInt8)=w:=Y
  have b:(λi:Nat=>(⟨⟨l⟩⟩:ByteArray)[i]! ==w)=λi:Nat=>(l[i]?).getD default==w:=by funext i;rw[anU]
  rw[a,b,(atz:(⟨⟨l⟩⟩:ByteArray).size=l.length),U6];unfold mj;cases nV w l<;>rfl
 unfold al;rw[e,aR];exact k
end
def U7{β:Type}(f:β->UInt8->β)(l:List UInt8)(hs:l.length<=(⟨⟨l⟩⟩:ByteArray).size):∀(i j:Nat) (b:β),i+j=l.length->@_root_.Id.run β (aAI (β:=β) (m:=_root_.Id) (λb x=>f b x) ⟨⟨l⟩⟩ l.length hs i j b)=(l.drop j).foldl f b
 | 0,j,b,h=>by unfold aAI;rw[dif_neg U,List.drop_of_length_le U];rfl
 |i+1,j,b,h=>by
  have a:j<l.length:=U
  unfold aAI;rw[dif_pos a,List.drop_eq_getElem_cons a,axq];exact U7 f l hs i (j+1) _ U
def anW{β:Type}(f:β->UInt8->β)(b:β)(l:List UInt8):(⟨⟨l⟩⟩:ByteArray).foldl f b=l.foldl f b:=by have h0:(⟨⟨l⟩⟩:ByteArray).size<=(⟨⟨l⟩⟩:ByteArray).size:=vr _;unfold ByteArray.foldl ByteArray.foldlM;simp only[dif_pos h0];exact U7 f l (vr _) _ 0 b (by show l.length- 0+0=_;omega)
def U8(w:UInt8):∀(l:List UInt8) (n:Int),l.foldl (λn x=>if x==w then n+1 else n) n=n+(l.count w:Nat)
 | [],n=>by simp
 |x::l,n=>by rw[axq,U8 w l,aCp];cases(x==w)<;>simp;omega
section
variable{P:tb}{h:ae}
def anX{l:List UInt8}{w:UInt8}{K:o5->ae->Prop}(k:K (.int .i64 (l.count w:Nat)) h):@al P _ (azf #[au l,.int .u8 w.toNat]) h ⟨K⟩:=by
 have e:azf #[au l,.int .u8 w.toNat]=pure (.int .i64 (l.count w:Nat)):=by
  have e0:azf #[au l,.int .u8 w.toNat]=pure (goInt ((⟨⟨l⟩⟩:ByteArray).foldl (λn x=>if x==((w.toNat:Int).toNat.toUInt8)then n+1 else n) (0:Nat))):=rfl;have a:((w.toNat:Int).toNat.toUInt8)=w:=Y
  rw[e0,a,anW,U8];simp[goInt]
 unfold al;rw[e,aR];exact k
end
section
variable{main:Bool}{ai:Type}{S:Sys ai}
def MD:bz pv 159=J:=O
def anY:bz pv 112=J:=O
def anZ:bz pv 166=J:=O
def an0:bz pv 119=J:=O
def an1:bz pv 75=J:=O
def an2:bz pv 209=J:=O
def an3:bz pv 185=J:=O
def an4:bz pv 162=J:=O
def MF(l:List UInt8)(w:UInt8):Pure pv main S 159 #[au l,.int .u8 w.toNat] (.int .i64 (mj w l)):=by intro s h;refine bL (args:=[au l,.int .u8 w.toNat]) Tryz.func159 (by delta Tryz.f159;rfl) Tryz.ntmps159 Y O ?_;simp only[ah,seval];refine ej.native (K:=⟨_⟩) Tryz.func181 O O O (x:=aAH) O ?_;refine anV ?_;simp only[ah,seval];exact bu Tryz.results159 Y atA
def an5(l:List UInt8)(w:UInt8):Pure pv main S 112 #[au l,.int .u8 w.toNat] (.int .i64 (mj w l)):=by intro s h;refine bL (args:=[au l,.int .u8 w.toNat]) Tryz.func112 (by delta Tryz.f112;rfl) Tryz.ntmps112 Y O ?_;simp only[ah,seval];refine ev MD (MF l w _ _) ?_;simp only[ah,seval];exact bu Tryz.results112 Y atA
def nW(l m:List UInt8):Bool:=decide (m.length<=l.length)&&(l.drop (l.length- m.length)==m)
def rZ(l m:List UInt8):Bool:=decide (m.length<=l.length)&&(l.take m.length==m)
def Fu{a b:Nat}:decide ((a:Int)>=b)=decide (b<=a):=by
 by_cases h:b<=a
 .rw[decide_eq_true h,decide_eq_true U]
 .rw[decide_eq_false h,decide_eq_false U]
def an6(l m:List UInt8)(c:l.length<=90000):Pure pv main S 166 #[au l,au m] (.bool (nW l m)):=by
 intro s h;refine bL (args:=[au l,au m]) Tryz.func166 (by delta Tryz.f166;rfl) Tryz.ntmps166 Y O ?_;by_cases a:m.length<=l.length
 .have b:xy.wrap ((l.length:Int)- m.length)=((l.length- m.length:Nat):Int):=by rw[cq U U];omega
  simp only[ah,seval,eH,Fu,decide_eq_true a,b];rw[tx (K:=⟨_⟩) U];simp only[ah,seval,gg];exact bu aCq Y ⟨rfl,rfl,by simp[ak,nW,a]⟩
 .simp only[ah,seval,eH,Fu,decide_eq_false a];exact bu aCq Y ⟨rfl,rfl,by simp[ak,nW,a]⟩
def an7(l m:List UInt8):Pure pv main S 209 #[au l,au m] (.bool (rZ l m)):=by
 intro s h;refine bL (args:=[au l,au m]) Tryz.func209 (by delta Tryz.f209;rfl) Tryz.ntmps209 Y O ?_;by_cases a:m.length<=l.length
 .simp only[ah,seval,eH,Fu,decide_eq_true a];rw[uQ (K:=⟨_⟩) U];simp only[ah,seval,gg];exact bu aCr Y ⟨rfl,rfl,by simp[ak,rZ,a]⟩
 .simp only[ah,seval,eH,Fu,decide_eq_false a];exact bu aCr Y ⟨rfl,rfl,by simp[ak,rZ,a]⟩
def an8(l m:List UInt8)(b:l.length<=90000):Pure pv main S 119 #[au l,au m] (au (if nW l m then l.take (l.length- m.length)else l)):=by
 intro s h;refine bL (args:=[au l,au m]) Tryz.func119 (by delta Tryz.f119;rfl) Tryz.ntmps119 Y O ?_;simp only[ah,seval];refine ev anZ (an6 l m b _ _) ?_;cases a:nW l m with
 |true=>
  have d:m.length<=l.length:=by simp[nW]at a;exact a.1
  have c:xy.wrap ((l.length:Int)- m.length)=((l.length- m.length:Nat):Int):=by rw[cq U U];omega
  simp only[ah,seval,eH,c];rw[uQ (K:=⟨_⟩) U];simp only[ah,seval];exact bu aCs Y ⟨rfl,rfl,atA⟩
 |false=>simp only[ah,seval];exact bu aCs Y ⟨rfl,rfl,atA⟩
def an9(l m:List UInt8)(a:l.length<=90000):Pure pv main S 75 #[au l,au m] (au (if nW l m then l.take (l.length- m.length)else l)):=by intro s h;refine bL (args:=[au l,au m]) Tryz.func75 (by delta Tryz.f75;rfl) Tryz.ntmps75 Y O ?_;simp only[ah,seval];refine ev an0 (an8 l m a _ _) ?_;simp only[ah,seval];exact bu Tryz.results75 Y ⟨rfl,rfl,atA⟩
def aoa(l m:List UInt8):Pure pv main S 185 #[au l,au m] (au (if rZ l m then l.drop m.length else l)):=by
 intro s h;refine bL (args:=[au l,au m]) Tryz.func185 (by delta Tryz.f185;rfl) Tryz.ntmps185 Y O ?_;simp only[ah,seval];refine ev an2 (an7 l m _ _) ?_;cases a:rZ l m with
 |true=>
  have b:m.length<=l.length:=by simp[rZ]at a;exact a.1
  simp only[ah,seval,eH];rw[tx (K:=⟨_⟩) U];simp only[ah,seval];exact bu aCt Y ⟨rfl,rfl,atA⟩
 |false=>simp only[ah,seval];exact bu aCt Y ⟨rfl,rfl,atA⟩
def aob(l m:List UInt8):Pure pv main S 162 #[au l,au m] (au (if rZ l m then l.drop m.length else l)):=by intro s h;refine bL (args:=[au l,au m]) Tryz.func162 (by delta Tryz.f162;rfl) Tryz.ntmps162 Y O ?_;simp only[ah,seval];refine ev an3 (aoa l m _ _) ?_;simp only[ah,seval];exact bu Tryz.results162 Y ⟨rfl,rfl,atA⟩
end
section
variable{main:Bool}{ai:Type}{S:Sys ai}
def U9:bz pv 208=J:=O
def aoc:bz pv 184=J:=O
def aod:bz pv 183=J:=O
def aoe(l:List UInt8)(w:UInt8):Pure pv main S 208 #[au l,au [w]] (.int .i64 (mj w l)):=by
 intro s h;refine bL (args:=[au l,au [w]]) Tryz.func208 (by delta Tryz.f208;rfl) Tryz.ntmps208 Y O ?_;have e0:((([w].length:Nat):Int)==0)=q9:=rfl;have b:((([w].length:Nat):Int)==1)=J:=rfl;have c:[w][(0:Int).toNat]? =C w:=rfl;simp only[ah,seval,eH,gg];cases a:([w]==l)with
 |true=>simp only[ah,seval];have:l=[w]:=(beq_iff_eq.1 a).symm;subst this;exact bu auC Y ⟨rfl,rfl,by simp[ak,mj,nV]⟩
 |false=>simp only[ah,seval,fq,fJ];refine ev MD (MF l w _ _) ?_;simp only[ah,seval];exact bu auC Y ⟨rfl,rfl,atA⟩
def aof(l:List UInt8)(w:UInt8):Pure pv main S 184 #[au l,au [w]] (.int .i64 (mj w l)):=by intro s h;refine bL (args:=[au l,au [w]]) Tryz.func184 (by delta Tryz.f184;rfl) Tryz.ntmps184 Y O ?_;simp only[ah,seval];refine ev U9 (aoe l w _ _) ?_;simp only[ah,seval];exact bu Tryz.results184 Y ⟨rfl,rfl,atA⟩
def aog(l:List UInt8)(w:UInt8):Pure pv main S 183 #[au l,au [w]] (.int .i64 (l.count w:Nat)):=by intro s h;refine bL (args:=[au l,au [w]]) Tryz.func183 (by delta Tryz.f183;rfl) Tryz.ntmps183 Y O ?_;have a:[w][(0:Int).toNat]? =C w:=rfl;simp only[ah,seval,eH,fq,fJ];refine ej.native (K:=⟨_⟩) Tryz.func207 O O O (x:=azf) O ?_;refine anX ?_;simp only[ah,seval];exact bu Tryz.results183 Y ⟨rfl,rfl,atA⟩
end
section
variable{P:tb}{h:ae}
def Va{t e c o n a:Nat}{lo hi:Option o5}{l hh:Nat}(b:P.underlying t=C (.slice e))(i:cu P e=C 1)(j:(∃k,hi=C (.int k hh)/\hh<=a)\/(hi=o0/\hh=n))(g:(∃k,lo=C (.int k l)/\l<=hh)\/(lo=o0/\l=0))(m:hh<=a)
  {K:o5->ae->Prop} (k:∀d,(l<hh->d=o+l)->K (dn c d (hh- l) (a- l)) h):@al P _ (K0 t (dn c o n a) lo hi o0) h ⟨K⟩:=by
 simp only[al,K0,aJ,c0,b];simp only[Instr.slice,aJ,c0,b];refine Ct j g _ ?_;simp only[gD,i,aR];by_cases f:a=l
 .rw[if_pos f];exact k o U
 .rw[if_neg f];have:=k (o+l) (λ_=>rfl);simp only[Option.map_some,kU,avV];exact this
def aoh{a b:Int}(c:a<=b)[K:KK o5]:al P (Builtin.min_ #[3,3] 3 #[.int .i64 a,.int .i64 b]) h=K.f (.int .i64 a) h:=by
 simp only[al,Builtin.min_,List.foldlM_cons,List.foldlM_nil,Builtin.min2,aJ,aR];by_cases hb:b<a
 .omega
 .simp only[hb,if_false]
end
section
variable{h:ae}
def tA:fw pv 9=C (.string .empty):=O
def jC:cu pv 9=C 1:=O
def aoi:∃i,pv.info? 9=C i/\i.bytes=16:=by
 have:(pv.info? 9).map (·.bytes)=C 16:=O
 cases hi:pv.info? 9 with
 |none=>rw[hi]at this;cases this
 |some i=>rw[hi]at this;exact⟨i,rfl,Option.some.inj this⟩
def aoj{n:Nat}(h1:1<=n)(g:n<=100000){K:o5->ae->Prop}(k:∀c h1 arr,arr.size=n->h c=o0->h1=h.put c ⟨.cells arr 9 (0,0),J⟩->K (dn c 0 n n) h1):@al pv _ (axl 98 (.int .i64 n) (.int .i64 n)) h ⟨K⟩:=by
 obtain⟨i,hi,hb⟩:=aoi;have f:xy.wrap (n:Int)=n:=cq U U;have a:¬((n:Int)<0):=U
 have b:¬((16:Nat):Int)*(n:Int)>2^48:=U
 have d:¬((n:Int)>(n:Int)):=U
 have e:¬n=0:=U
 simp only[al,axl,aJ,c0,au4,asInt,asIntOf,aR];rw[um hi];rw[hb];simp only[f,decide_eq_false a,decide_eq_false b,decide_eq_false d,Bool.or_self,N2,if_false,aJ,Cx,gD,jC,Int.toNat_natCast,avV,if_neg e,kH,tA,aR];intro c hc;exact k c _ _ Y hc rfl
end
def cz(w:UInt8):List UInt8->List (List UInt8)
 | []=>[[]]
 |x::l=>if x==w then[]::cz w l else match cz w l with|[]=>[[x]]|f::fs=>(x::f)::fs
def Fv{w:UInt8}:∀{l:List UInt8},(∀x∈l,(x==w)=q9)->cz w l=[l]
 | [],_=>rfl
 |x::l,h=>by rw[cz,h x Y,Fv (l:=l) λy a=>h y (by simp[a])];rfl
def MG{w:UInt8}:∀{a b:List UInt8},(∀x∈a,(x==w)=q9)->cz w (a++w::b)=a::cz w b
 | [],b,_=>by simp[cz]
 |x::a,b,h=>by rw[List.cons_append,cz,h x Y,MG (a:=a) λy c=>h y (by simp[c])];rfl
def uT{w:UInt8}:∀{l:List UInt8},(cz w l).length=l.count w+1
 | []=>rfl
 |x::l=>by
  have a:=uT (w:=w) (l:=l);rw[cz,aCp];cases b:(x==w)with
  |true=>simp[a]
  |false=>
   cases hs:cz w l with
   |nil=>rw[hs]at a;simp at a
   |cons f c=>rw[hs]at a;simpa using a
def fW(h:ae)(v:o5)(l:List (List UInt8)):Prop:=dE h v 1 (l.map λf=>[au f])
section
variable{main:Bool}{ai:Type}{S:Sys ai}{s:ai}{h:ae}
def aok:bz pv 160=J:=O
def aol:bz pv 113=J:=O
def aom:bz pv 161=J:=O
def aon:bz pv 114=J:=O
def aoo{l:List UInt8}{w:UInt8}(hl:l.length<=90000):bo pv main S 160 #[au l,au [w],.int .i64 0,.int .i64 (-1)] s h λs' h' v=>s'=s/\h.ar h'/\(∃m o n G,v=dn m o n G/\n<=G)/\fW h' v (cz w l):=by
 refine bL (args:=[au l,au [w],.int .i64 0,.int .i64 (-1)]) Tryz.func160 (by delta Tryz.f160;rfl) Tryz.ntmps160 Y O ?_;have H:=uT (w:=w) (l:=l);have hC:l.count w<=l.length:=List.count_le_length;simp only[ah,seval,(atz:((-1:Int)==0)=q9),gg,(atz:([w]==([]:List UInt8))=q9)];refine ev aod (aog l w _ _) ?_;have R:xy.wrap (((l.count w:Nat):Int)+1)=((l.count w+1:Nat):Int):=by rw[cq U U];omega
 have W:xy.wrap (((l.length:Nat):Int)+1)=((l.length+1:Nat):Int):=by rw[cq U U];omega
 have X:xy.wrap (((l.count w+1:Nat):Int)- 1)=((l.count w:Nat):Int):=by rw[cq U U];omega
 simp only[ah,seval,R,eH,W];rw[aoh (K:=⟨_⟩) U];simp only[ah,seval];refine aoj U U λc h1 arr az hc e1=> ?_;have a6:=bU hc e1;have g1:=bw e1;simp only[ah,seval,X];generalize hn:l.count w=n at*
 clear R W X;refine du (I:=λk e d L p=>∃i r,k=n- i/\i<=n/\e 0=au r/\e 1=au [w]/\e 2=.int .i64 0/\e 3=.int .i64 n/\e 9=dn c 0 (n+1) (n+1)/\e 10=.int .i64 i/\d=[]/\L=s/\r.length<=l.length/\(cz w l).drop i=cz w r/\h.ar p/\∃arr,p c=C ⟨.cells arr 9 (0,0),J⟩/\arr.size=n+1/\∀j,j<i->∀f,(cz w l)[j]? =C f->arr[j]? =C (au f)) (λk e d L p hI=> ?_) (m:=n) ⟨0,l,Y,Y,atA,atA,atA,atA,atA,atA,rfl,rfl,vr _,rfl,a6,arr,g1,az,λj g=>by omega⟩;obtain⟨i,r,rfl,hi,e0,y,e2,E,z,u,rfl,rfl,hr,hd,M,N,g2,a8,P⟩:=hI;have Q:e 0=.string ⟨⟨r⟩⟩:=e0;rcases vy i n with ba|ba
 .cases A:nV w r with
  |none=>rw[Fv (Fs.1 A)]at hd;have:=congrArg av2 hd;simp at this;omega
  |some m=>
   obtain⟨a,b,rfl,rfl,bb⟩:=Ft A;rw[MG bb]at hd;have bh:mj w (a++w::b)=(a.length:Int):=by simp[mj,A]
   have ck:(a++w::b).length=a.length+b.length+1:=atB
   simp only[ah,seval,e0,y,E,u,decide_eq_true (U:(i:Int)<n)];refine ev aoc (aof _ w _ _) ?_;have v1:xy.wrap ((a.length:Int)+0)=(a.length:Nat):=by rw[cq U U];omega
   have v2:xy.wrap ((a.length:Int)+1)=((a.length+1:Nat):Int):=by rw[cq U U];omega
   have bd:decide ((i:Int)<(n+1:Nat))=J:=atB
   have S1:∀{h:ae} [K:KK o5],al pv (K0 9 (.string ⟨⟨a++w::b⟩⟩) o0 (C (.int .i64 a.length)) o0) h=K.f (au a) h:=λ{h K}=>by rw[uQ Y,List.take_left' rfl]
   have S2:∀{h:ae} [K:KK o5],al pv (K0 9 (.string ⟨⟨a++w::b⟩⟩) (C (.int .i64 (a.length+1:Nat))) o0 o0) h=K.f (au b) h:=λ{h K}=>by
    rw[tx Y];have:(a++w::b).drop (a.length+1)=b:=by rw[<- awb,List.drop_left' rfl];rfl
    rw[this]
   simp only[ah,seval,bh,decide_eq_false (U:¬(a.length:Int)<0),Q,y,e2,z,u,v1,S1,bd,g2,decide_eq_true (U:i+1<=N.size)];intro h3 t;have F:=bw t;have B:=dM M hc t;simp only[ah,seval,eH,y,u,v2,S2];refine⟨n- (i+1),U,i+1,b,rfl,U,rfl,e2,E,z,by simp[cq (x:=(i:Int)+1) U U],U,?_,B,_,F,by simp[a8],λj g f D=> ?_⟩
   .rw[<- awb,hd];rfl
   .rcases Nat.lt_or_eq_of_le (Nat.le_of_lt_succ g)with q|q
    .rw[avD U];exact P j q f D
    .subst q;have:(cz w l)[j]? =C a:=by have:=congrArg (·[0]?) hd;simpa using this
     rw[this]at D;cases D;rw[axg U]
 .have bm:i=n:=U
  subst bm;have bn:cz w r=[r]:=by
   have h1:=congrArg av2 hd;rw[uT]at h1;simp only[List.length_drop,H]at h1;have h2:r.count w=0:=U
   refine Fv λx p=> ?_;rw[List.count_eq_zero]at h2;rw[beq_eq_false_iff_ne];rintro rfl;exact h2 p
  rw[bn]at hd;have bd:decide ((i:Int)<(i+1:Nat))=J:=atB
  have w4:xy.wrap ((i:Int)+1)=(i+1:Nat):=by rw[cq U U];omega
  simp only[ah,seval,Q,E,z,u,decide_eq_false (U:¬(i:Int)<i),bd,g2,decide_eq_true (U:i+1<=N.size)];intro h3 t;have F:=bw t;have B:=dM M hc t;simp only[seval,w4];refine Va (l:=0) (hh:=i+1) au4 jC (.inl ⟨_,rfl,U⟩) (.inr ⟨rfl,rfl⟩) U λo' ho=> ?_;have bs:=ho U;subst bs;simp only[ah,seval];refine bu Tryz.results160 Y ⟨rfl,B,⟨c,0,i+1,i+1,atA,vr _⟩,?_⟩;refine⟨C ⟨c,0,o0⟩,0,i+1,i+1,atA,by simp[H],.inr ⟨c,rfl,_,_,_,_,F,λj cm g q x p=> ?_⟩⟩;rw[aw1]at g;cases hs:(cz w l)[j]? with
  |none=>rw[hs]at g;cases g
  |some f=>
   rw[hs]at g;cases g;have cb:=(List.getElem?_eq_some_iff.1 hs).1;cases q with
   |succ q=>simp at p
   |zero=>
    cases p;rw[Nat.zero_add,avV,Nat.add_zero];rcases vy j i with q|q
    .rw[avD U];exact P j q f hs
    .have:j=i:=U
     subst this;have:(cz w l)[j]? =C r:=by have:=congrArg (·[0]?) hd;simpa using this
     rw[this]at hs;cases hs;rw[axg U]
def aop{l:List UInt8}{w:UInt8}(b:l.length<=90000):bo pv main S 113 #[au l,au [w]] s h λi h' v=>i=s/\h.ar h'/\(∃m o n a,v=dn m o n a/\n<=a)/\fW h' v (cz w l):=by refine bL (args:=[au l,au [w]]) Tryz.func113 (by delta Tryz.f113;rfl) Tryz.ntmps113 Y O ?_;simp only[ah,seval];refine cd aok (aoo b) λj k v ⟨c,d,⟨m,o,n,a,e,f⟩,g⟩=> ?_;subst c;subst e;simp only[ah,seval];exact bu Tryz.results113 Y ⟨rfl,d,⟨m,o,n,a,atA,f⟩,by simpa[ak]using g⟩
end
section
variable{P:tb}{h:ae}{t:Nat}{ms:Array (String×TypeId)}{x:su}
def Vb(a:P.underlying t=C (.interface ms)){Q:Bool->ae->Prop}:aH P (Op.equal t .nilIface .nilIface) h Q=Q J h:=by rw[vP];generalize 9999=d;rw[Op.equalIn];simp only[aJ,c0,a];rfl
def Vd(a:P.underlying t=C (.interface ms)){u:Nat}{v:o5}{Q:Bool->ae->Prop}:aH P (Op.equal t (.iface u v) .nilIface) h Q=Q q9 h:=by rw[vP];generalize 9999=d;rw[Op.equalIn];simp only[aJ,c0,a];rfl
def aoq(a:P.underlying t=C (.interface ms))[K:KK o5]:al P (bN .neq t x (.const .nilIface) .nilIface .nilIface) h=K.f (.bool q9) h:=by
 have q:(do W2 .neq t x (.const .nilIface) .nilIface .nilIface;binOp .neq t .nilIface .nilIface:Sem o5)=(do pure (.bool (!(<- Op.equal t .nilIface .nilIface)))):=by
  have:W2 .neq t x (.const .nilIface) .nilIface .nilIface=pure ():=by unfold W2;simp only[aAE,if_true];rfl
  rw[this];rfl
 unfold al bN;rw[q,aJ,Vb a,aR];rfl
def aor(a:P.underlying t=C (.interface ms))[K:KK o5]:al P (bN .eql t x (.const .nilIface) .nilIface .nilIface) h=K.f (.bool J) h:=by
 have q:(do W2 .eql t x (.const .nilIface) .nilIface .nilIface;binOp .eql t .nilIface .nilIface:Sem o5)=(do pure (.bool (<- Op.equal t .nilIface .nilIface))):=by
  have:W2 .eql t x (.const .nilIface) .nilIface .nilIface=pure ():=by unfold W2;simp only[aAE,if_true];rfl
  rw[this];rfl
 unfold al bN;rw[q,aJ,Vb a,aR]
def aos(a:P.underlying t=C (.interface ms)){u:Nat}{v:o5}{y:su}[K:KK o5]:al P (bN .neq t x y (.iface u v) .nilIface) h=K.f (.bool J) h:=by have q:(do W2 .neq t x y (.iface u v) .nilIface;binOp .neq t (.iface u v) .nilIface:Sem o5)=(do pure (.bool (!(<- Op.equal t (.iface u v) .nilIface)))):=rfl;unfold al bN;rw[q,aJ,Vd a,aR];rfl
end
section
variable{h:ae}
def Ve(d:Option TypeDesc):Bool:=match d with|some (.interface _)=>J|_=>q9
def Vf{d:Option TypeDesc}(h:Ve d=J):∃ms,d=C (.interface ms):=by
 unfold Ve at h;split at h
 .exact⟨_,rfl⟩
 .cases h
def Bb:∃ms,pv.underlying 91=C (.interface ms):=Vf O
def sc{x:su}[K:KK o5]:al pv (bN .neq 91 x (.const .nilIface) .nilIface .nilIface) h=K.f (.bool q9) h:=let⟨_,e⟩:=Bb;aoq e
def MH{x:su}[K:KK o5]:al pv (bN .eql 91 x (.const .nilIface) .nilIface .nilIface) h=K.f (.bool J) h:=let⟨_,e⟩:=Bb;aor e
def aot{l:List UInt8}{main:Bool}{ai:Type}{S:Sys ai}{fb:aS}{s:ai}{K:ai->ae->o5->Prop}(k:∀c h1 cap rest f,h c=o0->h1=h.put c ⟨.cells ⟨dR l++rest⟩ 5 f,J⟩->K s h1 (dn c 0 l.length cap)):@iw pv main _ S fb 9 87 (au l) s h ⟨K⟩:=by
 show @al pv _ (convert 9 87 (au l)) h ⟨λv h=>K s h v⟩;simp only[al,convert,aJ,c0,Tryz.underlying9,Tryz.underlying87,Tryz.underlying5,Conv.stringToBytes,xc,Question.forced,N2,if_false];intro t;simp only[newRow,aJ,qo,aR];intro c hc;have a:((⟨⟨l⟩⟩:ByteArray).data.map λb=>Value.int .u8 b.toNat)=⟨dR l⟩:=by apply auT.1;simp[dR]
 rw[a];generalize(Array.replicate _ (Value.int .u8 0):Array o5)=rest;have d:(⟨dR l⟩++rest:Array o5)=⟨dR l++rest.toList⟩:=by apply auT.1;simp
 rw[d];have g:(h.put c ⟨.cells ⟨dR l++rest.toList⟩ 5 (0,0),J⟩) c=C ⟨.cells ⟨dR l++rest.toList⟩ 5 (0,0),J⟩:=cI;simp only[markStringish,aJ];rw[A9 g];have e:∀(n:Nat) (Q:Unit->ae->Prop),aH pv (freeze ⟨c,n,o0⟩ 1) (h.put c ⟨.cells ⟨dR l++rest.toList⟩ 5 (0,0),J⟩) Q=Q () (h.put c ⟨.cells ⟨dR l++rest.toList⟩ 5 (n,n+1),J⟩):=λn Q=>by simp[freeze,aH,ae.owns,ae.shape?,ae.freeze,oS]
 simp only[e];exact k c _ _ rest.toList _ hc rfl
def yU{x:Int}(h1: -1000000000000<=x)(a:x<=1000000000000):xy.wrap x=x:=by simp only[aur,auQ,auR];simp;omega
end
def ij(l:List UInt8):Nat:=l.foldl (λa x=>a*10+(x.toNat- 48)) 0
def MI(l:List UInt8)(x:UInt8):ij (l++[x])=ij l*10+(x.toNat- 48):=by simp[ij]
def Fw{x:UInt8}:jz x=J↔48<=x.toNat/\x.toNat<=57:=by simp[jz];omega
def Fx{l:List UInt8}(h:∀x∈l,jz x=J):∀i,i<=l.length->ij (l.take i)<10^i
 | 0,_=>by simp[ij]
 |i+1,hi=>by
  have a:=Fx h i U;have b:=Fw.1 (h l[i] (N0 U));have e:l.take (i+1)=l.take i++[l[i]]:=by rw[atC];simp[(U:i<l.length)]
  rw[e,MI,Nat.pow_succ];omega
section
variable{main:Bool}{ai:Type}{S:Sys ai}{s:ai}{h:ae}
def aou:bz pv 193=J:=O
def Vg:bz pv 164=J:=O
def Fy:bz pv 116=J:=O
def yV{w:Bool}:zE undef w=q9:=rfl
def aov{x:UInt8}(h:48<=x.toNat):ax5.wrap ((x.toNat:Int)- 48)=((x.toNat- 48:Nat):Int):=by have:=x.toNat_lt;simp only[aur,auQ,auR];simp;omega
end
def Vh(w:UInt8):AW.contains w=jz w:=by
 have:∀n:Fin 256,AW.contains (UInt8.ofNat n.1)=jz (UInt8.ofNat n.1):=by decide +kernel
 have q:=this ⟨w.toNat,w.toNat_lt⟩;simpa using q
section
variable{main:Bool}{ai:Type}{S:Sys ai}{s:ai}{h:ae}
end
noncomputable def Fz:rj:=Tryz.f125.body.getD .skip
def MJ:rj:=bf Fz
def FA:rj:=bf MJ
def Bc:rj:=bf FA
def Bd:rj:=bf Bc
def FB:rj:=bf Bd
def FC:rj:=bf FB
def Vi:rj:=bf FC
def Vj:=aF Vi (.seq (.region _ [_,_,_].toArray _) .ret) rfl
def MK:rj:=bH FC
def ML:rj:=bf MK
def Vk:rj:=bH ML
def aow:=aF Vk (.region _ [_,_,_].toArray _) rfl
def aox:=aF ML (.cond _ Vk .skip) rfl
def aoy:=aF MK (.seq (.region _ [_].toArray _) ML) rfl
def aoz:=aF FC (.seq MK Vi) rfl
def MM:rj:=bH FB
def MN:rj:=bf MM
def MO:rj:=bH MN
def FD:rj:=bH MO
def FG:rj:=bf FD
def Vl:rj:=bf FG
def aoA:=aF Vl (.region _ [_,_,_].toArray _) rfl
def MP:rj:=bH FG
def FH:rj:=bH MP
def Vm:rj:=bf FH
def aoB:=aF Vm (.region _ [_,_,_,_,_,_,_,_,_].toArray _) rfl
def MQ:rj:=bH FH
def MR:rj:=bf MQ
def Vn:rj:=bH MR
def aoC:=aF Vn (.seq (.region _ [_,_].toArray _) .ret) rfl
def Vo:=aF MR (.cond _ Vn .skip) rfl
def aoD:=aF MQ (.seq (.region _ [_,_,_,_,_].toArray _) MR) rfl
def aoE:=aF FH (.seq MQ Vm) rfl
def aoF:=aF MP (.block _ FH) rfl
def aoG:=aF FG (.seq MP Vl) rfl
def MS:rj:=bH FD
def Vp:rj:=bf MS
def Vq:=aF Vp (.cond _ .skip (.exit 0)) rfl
def Vr:=aF MS (.seq (.region _ [_,_,_,_].toArray _) Vp) rfl
def Vs:=aF FD (.seq MS FG) rfl
def aoH:=aF MO (.loop FD) rfl
def aoI:=aF MN (.block _ MO) rfl
def aoJ:=aF MM (.seq (.region _ [_].toArray _) MN) rfl
def aoK:=aF FB (.seq MM FC) rfl
def aoL:=aF Bd (.seq (.region _ [_].toArray _) FB) rfl
def MU:rj:=bH Bc
def MV:rj:=bf MU
def Vt:rj:=bH MV
def MW:=aF Vt (.seq (.region _ [_,_].toArray _) .ret) rfl
def Be:=aF MV (.cond _ Vt .skip) rfl
def aoM:=aF MU (.seq (.region _ [_,_,_,_,_,_,_,_,_,_,_,_,_,_,_,_,_].toArray _) MV) rfl
def aoN:=aF Bc (.seq MU Bd) rfl
def MX:rj:=bH FA
def MY:rj:=bf MX
def Vu:rj:=bH MY
def aoO:=aF Vu (.region _ [_,_,_].toArray _) rfl
def MZ:=aF MY (.cond _ Vu .skip) rfl
def M4:=aF MX (.seq (.region _ [_].toArray _) MY) rfl
def M6:=aF FA (.seq MX Bc) rfl
def M7:=aF MJ (.seq (.region _ [_,_,_,_,_,_,_,_,_].toArray _) FA) rfl
def M8:=aF Fz (.seq (.region _ [_,_].toArray _) MJ) rfl
def aoP:Tryz.f125.body=C Fz:=O
def aoQ:fN 58 Fz=J:=O
def nX(m:Bool)(d:List UInt8):Option Int:=if(1<=d.length/\d.length<=9)/\(∀x∈d,jz x=J)/\¬(d.head? =C 48/\(1<d.length\/m=J))then C (if m then -(ij d:Int)else ij d)else o0
def dP:List UInt8->Option Int
 | []=>o0
 |x::r=>if x=45 then nX J r else nX q9 (x::r)
section
variable{main:Bool}{ai:Type}{S:Sys ai}{s:ai}{h:ae}{K:eM->Env->List Deferred->ai->ae->Prop}
def FI:bz pv 125=J:=O
def aoR{d:List UInt8}{m:Bool}{e:Env}(e0:e 0=au d)(e4:e 4=.bool m)(h1:1<=d.length)(F:d.length<=9)
  (kk:∀e',(∀x∈d,jz x=J)->e' 2=.int .i64 (if m then -(ij d:Int)else ij d)->e' 3=.bool J->K .ret e' [] s h)
  (z:∀e',¬(∀x∈d,jz x=J)->e' 2=.int .i64 0->e' 3=.bool q9->K .ret e' [] s h):
  cB pv main S 58 ⟨125,.normal,o0⟩ Bd K e [] s h:=by
 simp only[ah,seval,aoL,aoK,aoJ,aoI,aoH];refine du (I:=λk e' p r a=>∃i:Nat,k=d.length- i/\i<=d.length/\e' 0=au d/\e' 4=.bool m/\e' 5=.int .i64 (ij (d.take i))/\e' 6=.int .i64 i/\p=[]/\r=s/\a=h/\∀x∈d.take i,jz x=J) (λk e' p r a u=> ?_) (m:=d.length) ⟨0,Y,Y,by simp[ak,e0],by simp[ak,e4],by simp[ak,ij],atA,rfl,rfl,rfl,Y⟩;obtain⟨i,rfl,hi,e0,e4,f,n,rfl,rfl,rfl,hd⟩:=u;have g:e' 0=.string ⟨⟨d⟩⟩:=e0;rcases vy i d.length with hc|hc
 .have a:d[i]? =C d[i]:=Y
  have j:d.take (i+1)=d.take i++[d[i]]:=by rw[atC];simp[hc]
  have t:d[i]∈d:=N0 hc;have v:ij (d.take i)<10^i:=by
   have:=Fx (l:=d.take i) hd i atB
   rwa [List.take_take,Nat.min_self]at this
  have A:(10:Nat)^i<=10^8:=ayU U U;generalize d[i]=x at a j t;simp only[ah,seval,Vs,Vr,Vq,aoG,aoF,aoE,aoD,g,n,eH,decide_eq_true (U:(i:Int)<d.length),fq,a,fJ];refine⟨U,ev Rm (Ro x _ _) ?_⟩;cases c:jz x with
  |false=>simp only[ah,seval,Vo,aoC];exact z _ (λq=>by rw[q x t]at c;cases c) atA atA
  |true=>
   have E:=Fw.1 c;have w:ax5.wrap ((x.toNat:Int)- 48)=((x.toNat- 48:Nat):Int):=by rw[(U:(x.toNat:Int)- 48=((x.toNat- 48:Nat):Int))];exact A8 U
   have o:xy.wrap (10*(ij (d.take i):Int))=10*(ij (d.take i):Int):=yU U U;have B:xy.wrap ((x.toNat- 48:Nat):Int)=((x.toNat- 48:Nat):Int):=cq U U;have D:xy.wrap (10*(ij (d.take i):Int)+((x.toNat- 48:Nat):Int))=10*(ij (d.take i):Int)+((x.toNat- 48:Nat):Int):=yU U U;simp only[ah,seval,Vo,aoB,aoA,g,f,n,fq,a,fJ,w,o,B,D,Ml];refine⟨U,d.length- (i+1),U,i+1,rfl,U,e4,?_,by simp[cq (x:=(i:Int)+1) U U],?_⟩
   .rw[j,MI];congr 1;omega
   .rw[j];intro y b;rcases List.mem_append.1 b with b|b
    .exact hd y b
    .rw[List.mem_singleton.1 b];exact c
 .have:i=d.length:=U
  subst this;rw[N3]at hd f;have v:ij d<10^d.length:=by
   have:=Fx (l:=d) hd d.length U
   rwa [N3]at this
  have A:(10:Nat)^d.length<=10^9:=ayU U U;have o:xy.wrap (-(ij d:Int))= -(ij d:Int):=yU U U;simp only[ah,seval,Vs,Vr,Vq,aoz,aoy,aox,g,n,eH,decide_eq_false (U:¬((d.length:Nat):Int)<d.length),e4];cases m with
  |false=>simp only[ah,seval,Vj,f];exact kk _ hd atA atA
  |true=>simp only[ah,seval,aow,Vj,f];exact kk _ hd (by simp[ak,o]) atA
def FJ{m:Bool}{d:List UInt8}(h1:1<=d.length)(b:d.length<=9)(hd:∀x∈d,jz x=J)(a:¬(d.head? =C 48/\(1<d.length\/m=J))):nX m d=C (if m then -(ij d:Int)else ij d):=by unfold nX;rw[if_pos ⟨⟨h1,b⟩,hd,a⟩]
def wJ{m:Bool}{d:List UInt8}(q:¬(1<=d.length/\d.length<=9)\/¬(∀x∈d,jz x=J)\/(d.head? =C 48/\(1<d.length\/m=J))):nX m d=o0:=by
 unfold nX;rw[if_neg];rintro⟨a,b,c⟩;rcases q with q|q|q
 .exact q a
 .exact q b
 .exact c q
def M9{d:List UInt8}{m:Bool}{e:Env}(e0:e 0=au d)(e4:e 4=.bool m)(p:d.length<=90000)
  (kk:∀e',e' 2=.int .i64 ((nX m d).getD 0)->e' 3=.bool (nX m d).isSome->K .ret e' [] s h):cB pv main S 58 ⟨125,.normal,o0⟩ Bc K e [] s h:=by
 have g:e 0=.string ⟨⟨d⟩⟩:=e0;have no:nX m d=o0->∀e',e' 2=.int .i64 0->e' 3=.bool q9->K .ret e' [] s h:=λq e' a b=>kk e' (by rw[q];exact a) (by rw[q];exact b);simp only[ah,seval,aoN,aoM,g,eH];refine ev oB (oC _ _ _ _ _) ?_;cases hb:(decide ((1:Int)<=d.length)&&decide ((d.length:Int)<=9))with
 |false=>simp only[ah,seval,Be,MW];exact no (wJ (.inl λq=>by simp at hb;omega)) _ rfl rfl
 |true=>
  have f:1<=d.length/\d.length<=9:=by simp at hb;omega
  cases d with
  |nil=>simp at f
  |cons x r=>
  have j:(x::r)[0]? =C x:=rfl;have go:∀e',e' 0=au (x::r)->e' 4=.bool m->¬((x::r).head? =C 48/\(1<(x::r).length\/m=J))->cB pv main S 58 ⟨125,.normal,o0⟩ Bd K e' [] s h:=λe' a b c=>
   aoR a b f.1 f.2 (λl hd n o=>kk l (by rw[FJ f.1 f.2 hd c];exact n) (by rw[FJ f.1 f.2 hd c];exact o))
    λl hd n o=>no (wJ (.inr (.inl hd))) l n o
  cases c:(((x.toNat:Nat):Int)==48)with
  |false=>
   have k:x≠48:=λq=>by rw[q]at c;cases c
   simp only[ah,seval,g,fq,j,fJ,c,yV,Be];exact go _ (by simp[ak,e0]) (by simp[ak,e4]) λq=>k (by simpa using q.1)
  |true=>
   have k:x=48:=UInt8.toNat_inj.1 (by rw[beq_iff_eq]at c;rw[(atz:(48:UInt8).toNat=48)];omega);cases i:decide (((r.length+1:Nat):Int)>1)with
   |true=>simp only[ah,seval,g,fq,j,fJ,c,eH,i,Be,MW];exact no (wJ (.inr (.inr ⟨by simp[k],.inl (by simp at i ⊢;omega)⟩))) _ rfl rfl
   |false=>
    cases m with
    |true=>simp only[ah,seval,g,e4,fq,j,fJ,c,eH,i,Be,MW];exact no (wJ (.inr (.inr ⟨by simp[k],.inr rfl⟩))) _ rfl rfl
    |false=>simp only[ah,seval,g,e4,fq,j,fJ,c,eH,i,Be];exact go _ (by simp[ak,e0]) (by simp[ak,e4]) λq=>by rcases q.2 with q|q<;>simp at q i;omega
def FK{l:List UInt8}(g:l.length<=90000):bo pv main S 125 #[au l] s h λo h' z=>o=s/\h'=h/\z=.tuple #[.int .i64 ((dP l).getD 0),.bool (dP l).isSome]:=by
 refine bL (n:=58) (args:=[au l]) Tryz.func125 aoP rfl Y aoQ ?_;cases l with
 |nil=>simp only[ah,seval,M8,M7,M6,M4,MZ,eH];refine M9 (d:=[]) (m:=q9) rfl rfl Y λj a b=> ?_;exact gT aAK Y Y ⟨rfl,rfl,by rw[a,b];rfl⟩
 |cons x r=>
  have i:(x::r)[0]? =C x:=rfl;cases c:(((x.toNat:Nat):Int)==45)with
  |false=>
   have e:x≠45:=λq=>by rw[q]at c;cases c
   simp only[ah,seval,M8,M7,M6,M4,MZ,eH,fq,i,fJ,c,decide_eq_true (U:((r.length+1:Nat):Int)>0)];refine M9 (d:=x::r) (m:=q9) rfl rfl g λj a b=> ?_;exact gT aAK Y Y ⟨rfl,rfl,by rw[a,b,dP,if_neg e]⟩
  |true=>have e:x=45:=UInt8.toNat_inj.1 (by rw[beq_iff_eq]at c;rw[(atz:(45:UInt8).toNat=45)];omega);have k:∀{h:ae} [KK o5],al pv (K0 9 (.string ⟨⟨x::r⟩⟩) (C (.int .i64 1)) o0 o0) h=KK.f (au r) h:=λ{h _}=>Mk (l:=x::r) Y;simp only[ah,seval,M8,M7,M6,M4,MZ,aoO,eH,fq,i,fJ,c,decide_eq_true (U:((r.length+1:Nat):Int)>0),k];refine M9 (d:=r) (m:=J) rfl rfl (by simp at g;omega) λj a b=> ?_;exact gT aAK Y Y ⟨rfl,rfl,by rw[a,b,dP,if_pos e]⟩
end
end
end Go.Nk
