/- Part Pbf of the proof of ButtTexts: lemmas. -/
import Derived.Test.YthgephlghkjiaaaGreatDoorPbc
import Derived.Test.YthgephlghkjiaaaGreatDoorPbd
import Derived.Test.YthgephlghkjiaaaGreatDoorPbe
set_option maxRecDepth 100000
set_option maxHeartbeats 4000000
set_option linter.all false
namespace Go.Nk
noncomputable section
open Go Go.Conc Go.Proofs
open Bool renaming true->J,false->q9,and_eq_true->vh
open Go renaming Value->o5,FuncId->vb,MapEntry->HP
open Go.Proofs.Tryz renaming prog->pv
open List renaming range->atG,getElem?_eq_some_iff->F1,getElem?_eq_getElem->Q4,mem_of_getElem?->aum,mem_map->aui,mem_iff_getElem?->avd,all_eq_true->G0,mem_cons->B4,map_cons->atS,append_nil->auI
open Nat renaming beq->td,eq_of_beq_eq_true->atP,ble->vd,blt->Kf,add_zero->asg,zero_add->atI
open Option renaming some->C,none->o0
structure Xf(h:ae)(dj:List (Nat×Nat)):Prop where
 len:dj.length=7
 fP:∀(i j b k k':Nat),dj[i]? =C (b,k)->dj[j]? =C (b,k')->i=j
 at_:∀(i:Nat) (x:cj) (b k:Nat) (ρ:aX),l8[i]? =C x->dj[i]? =C (b,k)->(∀(j:Nat) (c:Nat×Nat),dj[j]? =C c->ρ (13+j)=C c)->Bk pv ρ k x (h b)
def ars{h h':ae}{b k:Nat}{x:cj}{ρ:aX}(le:h.ar h')(q:Bk pv ρ k x (h b)):Bk pv ρ k x (h' b):=by
 cases x with
 |dead=>trivial
 |cs own lo t c=>obtain⟨arr,fu,bJ,rest,h1,q⟩:=q;exact⟨arr,fu,bJ,rest,le _ _ h1,q⟩
 |mp own es d=>obtain⟨a,fu,h1,q⟩:=q;exact⟨a,fu,le _ _ h1,q⟩
section
variable{main:Bool}{ai:Type}{Sy:Sys ai}{s:ai}{h:ae}{b:aS}
def Xg{p k:Nat}{dj:List (Nat×Nat)}(fP:∀(i j b k k':Nat),dj[i]? =C (b,k)->dj[j]? =C (b,k')->i=j)(e:∀(j b k:Nat),dj[j]? =C (b,k)->b≠p):∀(i j b d c:Nat),((p,k)::dj)[i]? =C (b,d)->((p,k)::dj)[j]? =C (b,c)->i=j:=by
 intro i j b d c h1 a
 match i,j with
 | 0,0=>rfl
 | 0,j+1=>simp at h1 a;exact absurd h1.1.symm (e j b c a)
 |i+1,0=>simp at h1 a;exact absurd a.1.symm (e i b d h1)
 |i+1,j+1=>simp at h1 a;rw[fP i j b d c h1 a]
def Xh{o:Option (o5×aE)}{n:Int}{b:Bool}(h:Ad o=C (n,b)):∃H',o=C (.tuple ⟨[.int .i64 n,.bool b]⟩,H'):=by
 have d:∀{p:Prop},(o0:Option (Int×Bool))=C (n,b)->p:=λh=>by cases h
 cases o with
 |none=>exact d h
 |some e=>
  obtain⟨v,H⟩:=e;cases v with
  |tuple a=>
   obtain⟨l⟩:=a;rcases l with _|⟨x,_|⟨y,_|⟨z,l⟩⟩⟩
   .exact d h
   .exact d h
   .cases x with
    |int k m=>
     cases k with
     |i64=>
      cases y with
      |bool c=>cases(show C (m,c)=C (n,b)from h);exact⟨H,rfl⟩
      |_=>exact d h
     |_=>exact d h
    |_=>exact d h
   .exact d h
  |_=>exact d h
def Xi{ρ:aX}{n:Int}{c:Bool}{v:o5}(e:bj ρ (.tuple ⟨[.int .i64 n,.bool c]⟩) v):v=.tuple #[.int .i64 n,.bool c]:=by
 match v,e with
 |_,.tuple (.cons (.int _ _) (.cons (.bool _) .nil))=>rfl
def art{p k b0 k0:Nat}{o:Bool}{a b:bX}{dj:List (Nat×Nat)}(g:a∈dm)(hb:b∈dm)(B:Xf h dj)(h0:dj[0]? =C (b0,k0))(l:iA h p k [a,b] o)(m:∀(j b k:Nat),dj[j]? =C (b,k)->b≠p):bz pv 59=J/\bo pv main Sy 59 ⟨[.slice (C ⟨p,0,o0⟩) 2 k,aY b0]⟩ s h λf h' v=>f=s/\h.ar h'/\v=.tuple #[.int .i64 (pI a b),.bool J]:=by
 obtain⟨H',n⟩:=Xh (Pz (arq g hb))
 ·
  have e:∀(j:Nat) (c:Nat×Nat),dj[j]? =C c->iz ((p,k)::dj) (13+j)=C c:=λj c hc=>by unfold iz;rw[if_neg U,(U:13+j- 12=j+1)];simpa using hc
  obtain⟨r,q⟩:=uz (main:=main) (Sy:=Sy) (s:=s) (bs:=(p,k)::dj) (h:=h) (args':=[.slice (C ⟨p,0,o0⟩) 2 k,aY b0]) n (by simp[B.len,l8]) (Xg B.fP m) (λi x bG k' h1 d=>by
    match i with
    | 0=>simp at h1 d;obtain⟨rfl,rfl⟩:=d;subst h1;exact xW l
    |i+1=>exact B.at_ i x bG k' _ (by simpa using h1) (by simpa using d) e)
   (.cons (by have:=bj.sl (ρ:=iz ((p,k)::dj)) (c:=12) (b:=p) (k:=k) 0 2 df rfl;rw[oy]at this;exact this) (.cons (.ptr (k:=k0) 0 (e 0 _ h0)) .nil))
  exact⟨r,q.mono λf h' v ⟨t,u,bq,y,w,z⟩=>⟨t,u,Xi w⟩⟩
end
structure Xj(h:ae)(dj:List (Nat×Nat)):Prop where
 len:dj.length=8
 fP:∀(i j b k k':Nat),dj[i]? =C (b,k)->dj[j]? =C (b,k')->i=j
 at_:∀(i:Nat) (x:cj) (b k:Nat) (ρ:aX),rf[i]? =C x->dj[i]? =C (b,k)->(∀(j:Nat) (c:Nat×Nat),dj[j]? =C c->ρ (13+j)=C c)->Bk pv ρ k x (h b)
section
variable{main:Bool}{ai:Type}{Sy:Sys ai}{s:ai}{h:ae}{b:aS}
def aru{p k b0 k0 rC vf:Nat}{o:Bool}{a b:bX}{dj:List (Nat×Nat)}(g:a∈dm)(hb:b∈dm)(B:Xj h dj)(h0:dj[0]? =C (b0,k0))(n:dj[7]? =C (rC,vf))(l:iA h p k [a,b] o)(m:∀(j b k:Nat),dj[j]? =C (b,k)->b≠p):bz pv 61=J/\bo pv main Sy 61 ⟨[.slice (C ⟨p,0,o0⟩) 2 k,aY b0,aY rC]⟩ s h λf h' v=>f=s/\h.ar h'/\v=.tuple #[.int .i64 (gr 0 [a,b]),.bool (decide (pI a b<=20))]:=by
 obtain⟨H',r⟩:=Xh (Pz (arf g hb));have d:∀(j:Nat) (c:Nat×Nat),dj[j]? =C c->iz ((p,k)::dj) (13+j)=C c:=λj c hc=>by unfold iz;rw[if_neg U,(U:13+j- 12=j+1)];simpa using hc
 obtain⟨t,q⟩:=uz (main:=main) (Sy:=Sy) (s:=s) (bs:=(p,k)::dj) (h:=h) (args':=[.slice (C ⟨p,0,o0⟩) 2 k,aY b0,aY rC]) r (by simp[B.len,l8,rf]) (Xg B.fP m) (λi x bG k' h1 e=>by
   match i with
   | 0=>simp at h1 e;obtain⟨rfl,rfl⟩:=e;subst h1;exact xW l
   |i+1=>exact B.at_ i x bG k' _ (by simpa using h1) (by simpa using e) d)
  (.cons (by have:=bj.sl (ρ:=iz ((p,k)::dj)) (c:=12) (b:=p) (k:=k) 0 2 df rfl;rw[oy]at this;exact this) (.cons (.ptr (k:=k0) 0 (d 0 _ h0)) (.cons (.ptr (k:=vf) 0 (d 7 _ n)) .nil)))
 exact⟨t,q.mono λf h' v ⟨u,w,bq,z,y,A⟩=>⟨u,w,Xi y⟩⟩
end
def ND:IntKind->Bool|.i64=>J|_=>q9
def NF:o5->o5->Bool
 | .int k a,.int l b=>ND k&&ND l&&decide (a=b)
 | .slice (C ⟨b,o,o0⟩) n c,.slice (C ⟨bG,d,o0⟩) n' bJ=>td b bG&&td o d&&td n n'&&td c bJ
 | .pointer (C ⟨b,o,o0⟩),.pointer (C ⟨bG,d,o0⟩)=>td b bG&&td o d
 |_,_=>q9
def nn:List o5->List o5->Bool
 | [],[]=>J
 |a::l,b::m=>NF a b&&nn l m
 |_,_=>q9
def Xk{k:IntKind}(h:ND k=J):k=.i64:=by cases k<;>first|rfl|cases h
def arv{a b:o5}(h:NF a b=J):a=b:=by
 unfold NF at h;split at h
 .simp only[vh,decide_eq_true_eq]at h;rw[Xk h.1.1,Xk h.1.2,h.2]
 .simp only[vh]at h;rw[atP h.1.1.1,atP h.1.1.2,atP h.1.2,atP h.2]
 .simp only[vh]at h;rw[atP h.1,atP h.2]
 .cases h
def zm:∀{l m:List o5},nn l m=J->l=m
 | [],[],_=>rfl
 |a::l,b::m,h=>by simp only[nn,vh]at h;rw[arv h.1,zm h.2]
 | [],_::_,h=>by cases h
 |_::_,[],h=>by cases h
def lg(f:Nat->Nat):o5->o5
 | .slice (C ⟨b,o,o0⟩) n c=>.slice (C ⟨f b,o,o0⟩) n c
 |v=>v
def plain(n:Nat):o5->Bool
 | .int _ _=>J
 | .slice (C ⟨b,_,o0⟩) _ _=>vd 13 b&&Kf b (13+n)
 |_=>q9
def arw{f:Nat->Nat}{n:Nat}{ρ bq:aX}{v bF:o5}(a:plain n v=J)(h:bj ρ (lg f v) bF)(d:∀j,j<n->bq (13+j)=ρ (f (13+j))):bj bq v bF:=by
 unfold plain at a;split at a
 .unfold lg at h;cases h;exact .int _ _
 .rename_i b o m c;simp only[lg]at h;simp only[vh,Kf,Nat.ble_eq]at a;cases h with
  |sl o n m e=>refine .sl _ _ _ ?_;have:=d (b- 13) U;rw[(U:13+(b- 13)=b)]at this;rw[this];exact e
 .cases a
def Xl{f:Nat->Nat}{n:Nat}{ρ bq:aX}(d:∀j,j<n->bq (13+j)=ρ (f (13+j))):∀{l e:List o5},l.all (plain n)=J->cT ρ (l.map (lg f)) e->cT bq l e
 | [],_,_,.nil=>.nil
 |v::l,_,c,.cons a b=>by simp only[List.all_cons,vh]at c;exact .cons (arw c.1 a d) (Xl d c.2 b)
def sj:cj->TypeId|.cs _ _ t _=>t|_=>0
def rh:cj->List o5|.cs _ _ _ l=>l|_=>[]
def ri(H:aE)(f:Nat->Nat):List cj->Nat->Bool
 | [],_=>J
 |x::l,i=>match H.get (f (13+i))with
  |some (.cs _ q9 t v)=>td t (sj x)&&nn v ((rh x).map (lg f))&&vd H.cg (f (13+i))&&ri H f l (i+1)
  |_=>q9
def NG{H:aE}{f:Nat->Nat}:∀{l:List cj} {i:Nat},ri H f l i=J->∀{j:Nat} {x:cj},l[j]? =C x->∃o,H.get (f (13+(i+j)))=C (.cs o q9 (sj x) ((rh x).map (lg f)))/\H.cg<=f (13+(i+j))
 | [],i,_,j,x,b=>by simp at b
 |a::l,i,h,j,x,b=>by
  unfold ri at h;split at h
  .rename_i o t v c;simp only[vh]at h;cases j with
   |zero=>simp at b;subst b;exact⟨o,by rw[asg,c,atP h.1.1.1,zm h.1.1.2],by simpa using h.1.2⟩
   |succ j=>have:=NG h.2 (j:=j) (x:=x) (by simpa using b);rw[(U:i+(j+1)=i+1+j)];exact this
  .cases h
def lh(f:Nat->Nat):List cj->Nat->aE->aE
 | [],_,H=>H
 |x::l,i,H=>lh f l (i+1) (H.set (f (13+i)) (.cs q9 q9 (sj x) ((rh x).map (lg f))))
def NH{f:Nat->Nat}:∀(l:List cj) (i:Nat) (H:aE),(lh f l i H).an=H.an/\(lh f l i H).cg=H.cg/\(lh f l i H).bQ=H.bQ
 | [],_,_=>⟨rfl,rfl,rfl⟩
 |x::l,i,H=>by obtain⟨a,b,c⟩:=NH (f:=f) l (i+1) (H.set (f (13+i)) (.cs q9 q9 (sj x) ((rh x).map (lg f))));exact⟨a.trans rfl,b.trans rfl,c.trans rfl⟩
def Bq{f:Nat->Nat}:∀(l:List cj) (i:Nat) (H:aE) (c:Nat),(∀j,j<l.length->c≠f (13+(i+j)))->(lh f l i H).t.get c=H.t.get c
 | [],_,_,_,_=>rfl
 |x::l,i,H,c,a=>by unfold lh;rw[Bq l (i+1) _ c (λj b=>by have:=a (j+1) atB;rw[(U:i+1+j=i+(j+1))];exact this),aE.vM,if_neg (by have:=a 0 Y;simpa using this)]
def Xm{f:Nat->Nat}:∀(l:List cj) (i:Nat) (H:aE),(∀j k,j<l.length->k<l.length->f (13+(i+j))=f (13+(i+k))->j=k)->∀(j:Nat) (x:cj),l[j]? =C x->(lh f l i H).t.get (f (13+(i+j)))=C (.cs q9 q9 (sj x) ((rh x).map (lg f)))
 | [],_,_,_,j,x,b=>by simp at b
 |a::l,i,H,hi,j,x,b=>by
  unfold lh;cases j with
  |zero=>simp at b;subst b;have h0:i+0=i:=asg i;rw[h0,Bq l (i+1) _ _ (λj c e=>by have:=hi 0 (j+1) Y atB (by rw[h0,e];congr 2;omega);omega),aE.vM,if_pos rfl]
  |succ j=>
   have:=Xm l (i+1) (H.set (f (13+i)) (.cs q9 q9 (sj a) ((rh a).map (lg f)))) (λp q d g e=>by have:=hi (p+1) (q+1) atB atB (by rw[(U:i+(p+1)=i+1+p),(U:i+(q+1)=i+1+q)];exact e);omega) j x (by simpa using b)
   rw[(U:i+(j+1)=i+1+j)];exact this
def tN(cF:List cj):Prop:=∀x∈cF,x=.cs q9 q9 (sj x) (rh x)/\(rh x).all (plain cF.length)=J
def mQ(ρ:aX)(f:Nat->Nat)(n:Nat):List (Nat×Nat):=(atG n).map λj=>(ρ (f (13+j))).getD (0,0)
section
variable{ρ:aX}{H:aE}{h h':ae}{f:Nat->Nat}{cF:List cj}
def sk(S:cD pv 12 ρ H.get H.an h)(g:ri H f cF 0=J){j:Nat}{x:cj}(c:cF[j]? =C x):∃b k o,(mQ ρ f cF.length)[j]? =C (b,k)/\ρ (f (13+j))=C (b,k)/\H.get (f (13+j))=C (.cs o q9 (sj x) ((rh x).map (lg f)))/\H.cg<=f (13+j)/\Bk pv ρ k (.cs o q9 (sj x) ((rh x).map (lg f))) (h b):=by
 obtain⟨o,a,d⟩:=NG g c;rw[atI]at a d;obtain⟨b,k,e,l⟩:=S.blk _ _ a;have i:j<cF.length:=(F1.1 c).1;refine⟨b,k,o,?_,e,a,d,l⟩;unfold mQ;simp[i,e]
def Gl{i b k:Nat}(h1:(mQ ρ f cF.length)[i]? =C (b,k)):∃x,cF[i]? =C x:=by have:=(F1.1 h1).1;simp[mQ]at this;exact⟨_,Q4 this⟩
def arx(S:cD pv 12 ρ H.get H.an h)(a:ri H f cF 0=J)(m:∀j k,j<cF.length->k<cF.length->f (13+j)=f (13+k)->j=k):∀(i j b k k':Nat),(mQ ρ f cF.length)[i]? =C (b,k)->(mQ ρ f cF.length)[j]? =C (b,k')->i=j:=by intro i j b k k' h1 g;obtain⟨x,l⟩:=Gl h1;obtain⟨y,c⟩:=Gl g;obtain⟨bM,u,v,d,p,q,w,z⟩:=sk S a l;obtain⟨bE,r,A,e,n,o,s,t⟩:=sk S a c;rw[h1]at d;cases d;rw[g]at e;cases e;exact m i j (F1.1 l).1 (F1.1 c).1 (S.inj _ _ _ _ _ _ _ q o rfl rfl p n)
def ary(S:cD pv 12 ρ H.get H.an h)(a:ri H f cF 0=J)(wf:tN cF):∀(i:Nat) (x:cj) (b k:Nat) (bq:aX),cF[i]? =C x->(mQ ρ f cF.length)[i]? =C (b,k)->(∀(j:Nat) (c:Nat×Nat),(mQ ρ f cF.length)[j]? =C c->bq (13+j)=C c)->Bk pv bq k x (h b):=by intro i x b k bq g hb l;obtain⟨bM,z,A,d,B,D,E,r⟩:=sk S a g;rw[hb]at d;cases d;obtain⟨s,t⟩:=wf x (aum g);obtain⟨arr,fu,bJ,rest,u,F,v,m,n,w⟩:=r;rw[s];refine⟨arr,fu,bJ,rest,u,(by intro e;cases e),v,Xl (λj o=> ?_) t m,n,λe=>by cases e⟩;obtain⟨bE,y,G,p,q,_⟩:=sk S a (j:=j) (Q4 o);rw[l j _ p,q]
def arz{l:List bX}{p k:Nat}(S:cD pv 12 ρ H.get H.an h)(cl:12<=H.an)(K:ri H f cF 0=J)(bb:∀j k,j<cF.length->k<cF.length->f (13+j)=f (13+k)->j=k)
  (b9:EL h h') (aK:∀b x,h b=C x->b∉(mQ ρ f cF.length).map (·.1)->h' b=C x) (W:h p=o0) (hp:iA h' p k l J):
  ∃bq,cD pv 12 bq ((lh f cF 0 H).new (.cs J J 57 (iL l))).get ((lh f cF 0 H).new (.cs J J 57 (iL l))).an h'/\bq H.an=C (p,k)/\gq H ρ h ((lh f cF 0 H).new (.cs J J 57 (iL l))) bq h':=by
 obtain⟨bK,bR,cQ⟩:=NH (f:=f) cF 0 H;have ag:((lh f cF 0 H).new (.cs J J 57 (iL l))).an=H.an+1:=by show(lh f cF 0 H).an+1=_;rw[bK]
 have bh:∀c x,H.get c=C x->c<H.an:=λc x i=>by refine Nat.lt_of_not_le λca=> ?_;obtain⟨b,k,r,_⟩:=S.blk c x i;rw[S.dX c ca]at r;cases r
 have bk:∀j k,j<cF.length->k<cF.length->f (13+(0+j))=f (13+(0+k))->j=k:=λj k a b e=>by rw[atI,atI]at e;exact bb j k a b e
 let bq:aX:=λc=>if c=H.an then C (p,k)else ρ c
 have L:bq H.an=C (p,k):=if_pos rfl;have s:∀c,c≠H.an->bq c=ρ c:=λc hc=>if_neg hc;have le:ρ.ar bq:=λc x i=>by
  have:c≠H.an:=λe=>by subst e;rw[S.dX _ (Nat.le_refl _)]at i;cases i
  rw[s c this];exact i
 have a7:∀c x,c≠H.an->((lh f cF 0 H).new (.cs J J 57 (iL l))).get c=C x->(∃j y,cF[j]? =C y/\c=f (13+j)/\x=.cs q9 q9 (sj y) ((rh y).map (lg f)))\/((∀j,j<cF.length->c≠f (13+j))/\H.get c=C x):=λc x hc i=>by
  rw[aE.vN,bK,if_neg hc]at i;obtain⟨g1,Q⟩:=aE.get_some i;rw[cQ]at g1;by_cases n:∃j,j<cF.length/\c=f (13+j)
  .obtain⟨j,n,rfl⟩:=n;have e:=Xm cF 0 H bk j _ (Q4 n);rw[atI]at e;rw[e]at Q;cases Q;exact .inl ⟨j,_,Q4 n,rfl,rfl⟩
  .have t:∀j,j<cF.length->c≠f (13+j):=λj X e=>n ⟨j,X,e⟩;rw[Bq cF 0 H c (λj X=>by rw[atI];exact t j X)]at Q;exact .inr ⟨t,by rw[aE.get_eq,g1];exact Q⟩
 have live:∀c x,c≠H.an->((lh f cF 0 H).new (.cs J J 57 (iL l))).get c=C x->x.live=J->∃y,H.get c=C y/\y.live=J:=λc x hc i u=>by
  rcases a7 c x hc i with⟨j,y,m,rfl,rfl⟩|⟨_,q⟩
  .obtain⟨bM,o,o1,A,F,B,_⟩:=sk S K m;exact⟨_,B,rfl⟩
  .exact⟨x,q,u⟩
 have bl:∀c x b o,H.get c=C x->x.live=J->ρ c=C (b,o)->(∀j,j<cF.length->c≠f (13+j))->b∉(mQ ρ f cF.length).map (·.1):=λc x b o i u P t hm=>by obtain⟨⟨bE,k2⟩,M,rfl⟩:=aui.1 hm;obtain⟨j,n⟩:=avd.1 M;obtain⟨y,m⟩:=Gl n;obtain⟨b3,k3,o3,A,F,B,_⟩:=sk S K m;rw[n]at A;cases A;exact t j (F1.1 m).1 (S.inj _ _ _ _ _ _ _ i B u rfl P F)
 refine⟨bq,⟨λc x i=> ?_,λc d x y b o k2 i m az a6 h1 I=> ?_,λc hc=> ?_,λg hg=> ?_⟩,L,le,λc hc=>s c U,by rw[ag];omega,bR,cQ,λc hc t=> ?_,λb x hb t=> ?_,λc x b o i hc u P=> ?_⟩
 .by_cases hc:c=H.an
  .subst hc;rw[aE.vN,bK,if_pos rfl]at i;split at i
   .cases i
   .cases i;obtain⟨arr,rest,q1,q2,cb,q3,q4⟩:=hp;exact⟨p,k,L,arr,J,iL l,rest,q1,(λ_=>rfl),q2,CS _ l,(by intro e;cases e),λ_=>⟨cb,q3,q4⟩⟩
  .rcases a7 c x hc i with⟨j,y,m,rfl,rfl⟩|⟨t,q⟩
   .obtain⟨bM,o,o1,A,F,B,R,arr,fu,bJ,rest,v,D,r3,r4,r5,r6⟩:=sk S K m;obtain⟨o2,M⟩:=b9 _ _ v;exact⟨bM,o,by rw[s _ hc];exact F,arr,o2,bJ,rest,M,(by intro e;cases e),r3,r4.mono le,r5,λe=>by cases e⟩
   .obtain⟨bM,o,v,D⟩:=S.blk c x q;refine⟨bM,o,by rw[s _ hc];exact v,?_⟩;cases u:x.live with
    |false=>cases x with
     |dead=>trivial
     |cs=>cases u
     |mp=>cases u
    |true=>obtain⟨y,m⟩:=D.isSome u;rw[aK bM y m (bl c x bM o q u v t)];rw[m]at D;exact D.mono le
 .by_cases hc:c=H.an
  .by_cases hd:d=H.an
   .rw[hc,hd]
   .exfalso;subst hc;rw[L]at h1;cases h1;obtain⟨z,E,N⟩:=live d y hd m a6;rw[s d hd]at I;obtain⟨bE,k3,v,D⟩:=S.blk d z E;rw[I]at v;cases v;obtain⟨w,G⟩:=D.isSome N;rw[W]at G;cases G
  .by_cases hd:d=H.an
   .exfalso;subst hd;rw[L]at I;cases I;obtain⟨z,E,N⟩:=live c x hc i az;rw[s c hc]at h1;obtain⟨bE,k3,v,D⟩:=S.blk c z E;rw[h1]at v;cases v;obtain⟨w,G⟩:=D.isSome N;rw[W]at G;cases G
   .obtain⟨z,E,N⟩:=live c x hc i az;obtain⟨w,G,b8⟩:=live d y hd m a6;rw[s c hc]at h1;rw[s d hd]at I;exact S.inj _ _ _ _ _ _ _ E G N b8 h1 I
 .rw[ag]at hc;rw[s c U];exact S.dX c U
 .rw[s g U];exact S.rI g hg
 .rw[aE.ug,bK,if_neg U];refine Bq cF 0 H c λj n e=>t ?_;rw[atI]at e;obtain⟨bM,o,o1,A,F,B,R,_⟩:=sk S K (j:=j) (Q4 n);rw[e];exact⟨R,_,B,rfl⟩
 .refine aK b x hb λhm=> ?_;obtain⟨⟨bE,k2⟩,M,rfl⟩:=aui.1 hm;obtain⟨j,n⟩:=avd.1 M;obtain⟨y,m⟩:=Gl n;obtain⟨b3,k3,o3,A,F,B,R,_⟩:=sk S K m;rw[n]at A;cases A;exact t (f (13+j)) k2 ⟨R,_,B,rfl⟩ F
 .by_cases e:c=H.an
  .subst e;rw[L]at P;cases P;exact .inl W
  .obtain⟨z,E,_⟩:=live c x e i u;have:=bh c z E;omega
def arA{l:List bX}(d:ri H f cF 0=J):Can H ((lh f cF 0 H).new (.cs J J 57 (iL l))):=by
 obtain⟨bK,bR,cQ⟩:=NH (f:=f) cF 0 H;refine⟨by show H.an<=(lh f cF 0 H).an+1;omega,bR,cQ,λc hc g=> ?_⟩;have h:c≠H.an:=by have:((lh f cF 0 H).new (.cs J J 57 (iL l))).an=(lh f cF 0 H).an+1:=rfl;omega
 rw[aE.ug,bK,if_neg h];refine Bq cF 0 H c λj i e=>g ?_;rw[atI]at e;obtain⟨o,a,b⟩:=NG d (Q4 i);rw[atI]at a b;rw[e];exact⟨b,_,a,rfl⟩
end
structure kB(cF:List cj)(h:ae)(dj:List (Nat×Nat)):Prop where
 len:dj.length=cF.length
 fP:∀(i j b k k':Nat),dj[i]? =C (b,k)->dj[j]? =C (b,k')->i=j
 at_:∀(i:Nat) (x:cj) (b k:Nat) (ρ:aX),cF[i]? =C x->dj[i]? =C (b,k)->(∀(j:Nat) (c:Nat×Nat),dj[j]? =C c->ρ (13+j)=C c)->Bk pv ρ k x (h b)
section
variable{cF:List cj}{h h':ae}{dj:List (Nat×Nat)}
def kB.cells(G:kB cF h dj)(wf:tN cF){i b k:Nat}(hb:dj[i]? =C (b,k)):∃arr t o,h b=C ⟨.cells arr t (0,0),o⟩:=by
 have hi:i<cF.length:=by rw[<- G.len];exact(F1.1 hb).1
 have q:=G.at_ i _ b k (λc=>if 13<=c then dj[c- 13]? else o0) (Q4 hi) hb (λj c a=>by show(if 13<=13+j then dj[13+j- 13]? else o0)=C c;rw[if_pos U,Nat.add_sub_cancel_left];exact a)
 obtain⟨e,f⟩:=wf _ (List.getElem_mem hi);rw[e]at q;obtain⟨arr,o,c,r,d,_⟩:=q;exact⟨arr,_,o,d⟩
def kB.NI(G:kB cF h dj)(wf:tN cF)(g:∀b∈dj.map (·.1),∀x,h b=C x->∃o,h' b=C ⟨x.obj,o⟩):kB cF h' dj:=⟨G.len,G.fP,λi x b k ρ h1 a j=>by have q:=G.at_ i x b k ρ h1 a j;obtain⟨l,p⟩:=wf x (aum h1);rw[l]at q ⊢;obtain⟨arr,o,c,r,d,n,f⟩:=q;obtain⟨m,e⟩:=g b (aui.2 ⟨(b,k),aum a,rfl⟩) _ d;exact⟨arr,m,c,r,e,(by intro e;cases e),f⟩⟩
def kB.put(G:kB cF h dj)(wf:tN cF){l:Nat}{L:Loop}{o:Bool}{x:dL}(a:h l=C ⟨.loop L,o⟩):kB cF (h.put l x) dj:=G.NI wf λb hb y c=>by
  obtain⟨⟨bE,i⟩,d,rfl⟩:=aui.1 hb;obtain⟨j,f⟩:=avd.1 d;obtain⟨arr,t,k,e⟩:=G.cells wf f;have:bE≠l:=λg=>by subst g;rw[a]at e;cases e
  exact⟨y.own,by rw[bx this];exact c⟩
def kB.ne(G:kB cF h dj)(wf:tN cF){p:Nat}(a:h p=o0):∀(j b k:Nat),dj[j]? =C (b,k)->b≠p:=λj b k hb e=>by subst e;obtain⟨arr,t,o,q⟩:=G.cells wf hb;rw[a]at q;cases q
def kB.le(G:kB cF h dj)(wf:tN cF)(le:h.ar h'):kB cF h' dj:=G.NI wf λb _ y a=>⟨y.own,le _ _ a⟩
end
def Gm:tN l8:=by intro x a;simp[l8]at a;rcases a with rfl|rfl|rfl|rfl|rfl|rfl|rfl<;>exact⟨rfl,aty⟩
def Gn:tN rf:=by intro x a;simp[rf,l8]at a;rcases a with rfl|rfl|rfl|rfl|rfl|rfl|rfl|rfl<;>exact⟨rfl,aty⟩
def kB.bM{h:ae}{dj:List (Nat×Nat)}(G:kB l8 h dj):Xf h dj:=⟨G.len,G.fP,G.at_⟩
def kB.bE{h:ae}{dj:List (Nat×Nat)}(G:kB rf h dj):Xj h dj:=⟨G.len,G.fP,G.at_⟩
def arB:bz pv 59=J:=O
def arC:bz pv 61=J:=O
section
variable{main:Bool}{ai:Type}{Sy:Sys ai}{dj:List (Nat×Nat)}{b0 k0 rC vf:Nat}
def arD(h0:dj[0]? =C (b0,k0)):uH main Sy (λh=>kB l8 h dj) 59 #[aY b0] pI (λ_ _=>J):=⟨arB,λh h' G le=>G.le Gm le,λh l L o x G c=>G.put Gm c,λs h i p k a b o d e G f hb g=>(art f hb G.bM h0 g (d.ne Gm e)).2⟩
def arE(h0:dj[0]? =C (b0,k0))(i:dj[7]? =C (rC,vf)):uH main Sy (λh=>kB rf h dj) 61 #[aY b0,aY rC] (λa b=>gr 0 [a,b]) (λa b=>decide (pI a b<=20)):=⟨arC,λh h' G le=>G.le Gn le,λh l L o x G c=>G.put Gn c,λs h j p k a b o d e G f hb g=>(aru f hb G.bE h0 i g (d.ne Gn e)).2⟩
end
def c1:cV:=(12,[(0,1),(1,2)])
def c2:cV:=(0,[(0,0),(0,0)])
def NJ(a b:bX):Int:=gr 0 [a,b]
def NK(a b:bX):Bool:=decide (pI a b<=20)
def NL(bS:Int)(nf:bX->bX->Int)(gf:bX->bX->Bool)(c:cV):Bool:=(atG 8).all λk=>(jB bS nf gf (hY k) 8).all λbJ=>decide (key bJ<=key c->bJ=c)
def kA:NL 1 pI (λ_ _=>J) c1=J:=O
def pe:NL 2 NJ NK c2=J:=O
def arF:decide (c1∈jB 1 pI (λ_ _=>J) (hY 1) 8)=J:=O
def arG:decide (c2∈jB 2 NJ NK (hY 0) 8)=J:=O
def Xn{bS:Int}{nf:bX->bX->Int}{gf:bX->bX->Bool}{c:cV}(h:NL bS nf gf c=J):∀k,k<8->∀bJ∈jB bS nf gf (hY k) 8,key bJ<=key c->bJ=c:=λk b bJ a d=>by have:=G0.1 (G0.1 h k (by simpa using b)) bJ a;exact(of_decide_eq_true this) d
def da(c:Nat):Nat:=match c- 13 with|0=>641|1=>15|2=>13|3=>14|4=>36|5=>25|_=>35
def dQ(c:Nat):Nat:=match c- 13 with|0=>681|1=>15|2=>13|3=>14|4=>36|5=>25|6=>35|_=>644
def arH:∀j k,j<l8.length->k<l8.length->da (13+j)=da (13+k)->j=k:=by
 intro j k a b;have a:j<7:=a;have b:k<7:=b
 match j,k with
 | 0,0|1,1|2,2|3,3|4,4|5,5|6,6=>exactλ_=>rfl
 | 0,1|0,2|0,3|0,4|0,5|0,6|1,0|1,2|1,3|1,4|1,5|1,6|2,0|2,1|2,3|2,4|2,5|2,6|3,0|3,1|3,2|3,4|3,5|3,6|4,0|4,1|4,2|4,3|4,5|4,6|5,0|5,1|5,2|5,3|5,4|5,6|6,0|6,1|6,2|6,3|6,4|6,5=>exactλe=>by cases e
 |j+7,_=>omega
 |_,k+7=>omega
def arI:∀j k,j<rf.length->k<rf.length->dQ (13+j)=dQ (13+k)->j=k:=by
 intro j k a b;have a:j<8:=a;have b:k<8:=b;have key:(atG 8).all λj=>(atG 8).all λk=>decide (dQ (13+j)=dQ (13+k)->j=k):=aty
 exact of_decide_eq_true (G0.1 (G0.1 key j (by simpa using a)) k (by simpa using b))
def rl(c:Nat):o5:=.pointer (C ⟨c,0,o0⟩)
def zn(f:Nat->Nat)(cF:List cj)(c:cV)(H:aE):Option (o5×aE):=cond (ri H f cF 0) (C (.tuple ⟨[.agg ⟨[.slice (C ⟨H.an,0,o0⟩) 2 df,.int .i64 c.1]⟩,.bool J]⟩,(lh f cF 0 H).new (.cs J J 57 (iL c.2)))) o0
def zo(l:List o5)(H:aE):Option (o5×aE):=match l with
 | [.agg ⟨x⟩,.int .i64 bS,.func (.func fC) ⟨[]⟩ ⟨fF⟩]=>
  cond (td fC 59&&nn x (sW.map (lg da))&&decide (bS=1)&&nn fF [rl 641]) (zn da l8 c1 H)
   (cond (td fC 61&&nn x (sW.map (lg dQ))&&decide (bS=2)&&nn fF [rl 681,rl 644]) (zn dQ rf c2 H) o0)
 |_=>o0
def arJ:bz pv 58=J:=O
def NM{ρ:aX}{c:Nat}{v:o5}(h:bj ρ (rl c) v):∃b k,ρ c=C (b,k)/\v=aY b:=by
 unfold rl at h;cases h with
 |ptr o e=>exact⟨_,_,e,rfl⟩
def NN{ρ:aX}{c o n m:Nat}{v:o5}(h:bj ρ (.slice (C ⟨c,o,o0⟩) n m) v):∃b k,ρ c=C (b,k)/\v=.slice (C ⟨b,o,o0⟩) n (jr k m):=by
 cases h with
 |sl o n m e=>exact⟨_,_,e,rfl⟩
section
variable{os0:eI}{Post:o5->World->Prop}
def Xo{cF:List cj}{f:Nat->Nat}{fC:vb}{c:cV}{ca cb:bX}{bS:Int}{nf:bX->bX->Int}{gf:bX->bX->Bool}{fF x' m:List o5}{H H':aE}{v:o5}{ρ:aX}{h:ae}{s:av}(wf:tN cF)(y:∀j k,j<cF.length->k<cF.length->f (13+j)=f (13+k)->j=k)
  (g1:cF[1]? =l8[1]?) (g4:cF[4]? =l8[4]?) (hc:c.2=[ca,cb]) (K:1<=bS) {kx:Nat} (L:kx<8) (M:c∈jB bS nf gf (hY kx) 8) (N:∀k,k<8->∀bJ∈jB bS nf gf (hY k) 8,key bJ<=key c->bJ=c)
  (bt:∀(dj:List (Nat×Nat)),dj=mQ ρ f cF.length->cT ρ fF m->(∀j,j<cF.length->∃b k,dj[j]? =C (b,k)/\ρ (f (13+j))=C (b,k))->∀i,uH q9 (dY 203 210 os0 Post i) (λh=>kB cF h dj) fC ⟨m⟩ nf gf)
  (l:zn f cF c H=C (v,H')) (S:cD pv 12 ρ H.get H.an h) (z:cT ρ (sW.map (lg f)) x') (P:cT ρ fF m) (Q:12<=H.an) (D:iD s):
  bo pv J (SM 203 210 os0 Post) 58 ⟨[.agg ⟨x'⟩,.int .i64 bS,.func (.func fC) ⟨[]⟩ ⟨m⟩]⟩ s h λE h' F=>iD E/\∃bq,cD pv 12 bq H'.get H'.an h'/\bj bq v F/\gq H ρ h H' bq h':=by
 unfold zn at l;cases g:ri H f cF 0 with
 |false=>rw[g]at l;cases l
 |true=>
  rw[g,cond_true]at l;cases l;have G:kB cF h (mQ ρ f cF.length):=⟨by simp[mQ],arx S g y,ary S g wf⟩;have all:∀j,j<cF.length->∃b k,(mQ ρ f cF.length)[j]? =C (b,k)/\ρ (f (13+j))=C (b,k):=λj r=>by obtain⟨b,k,o,u,w,_⟩:=sk S g (Q4 r);exact⟨b,k,u,w⟩
  have b0:1<cF.length:=(F1.1 (g1.trans (atz:l8[1]? =C _))).1;have R:4<cF.length:=(F1.1 (g4.trans (atz:l8[4]? =C _))).1;obtain⟨bM,I,u,w⟩:=all 1 b0;obtain⟨n,A,W,X⟩:=all 4 R;have ab:bM≠n:=λe=>by subst e;have:=G.fP 1 4 bM I A u W;omega
  have ex:(⟨x'⟩:Array o5)=#[.slice (C ⟨bM,0,o0⟩) 2 2,.slice (C ⟨n,0,o0⟩) 2 2,.int .i64 20,.int .i64 1]:=by
   have hw:cT ρ [.slice (C ⟨f 14,0,o0⟩) 2 2,.slice (C ⟨f 17,0,o0⟩) 2 2,.int .i64 20,.int .i64 1] x':=z;clear z;cases hw with
   |cons a ad=>cases ad with
    |cons b af=>cases af with
     |cons c ag=>cases ag with
      |cons d az=>cases az;obtain⟨x1,y1,ea,rfl⟩:=NN a;obtain⟨x2,y2,eb,rfl⟩:=NN b;cases c;cases d;have a8:ρ (f 14)=C (bM,I):=w;have bb:ρ (f 17)=C (n,A):=X;obtain⟨rfl,rfl⟩:=Prod.mk.inj (Option.some.inj (ea.symm.trans a8));obtain⟨rfl,rfl⟩:=Prod.mk.inj (Option.some.inj (eb.symm.trans bb));rw[EH,EH]
  rw[ex];have bh:∀b∈(mQ ρ f cF.length).map (·.1),∃x,h b=C x:=λb hb=>by obtain⟨⟨bE,k2⟩,bk,rfl⟩:=aui.1 hb;obtain⟨j,r⟩:=avd.1 bk;obtain⟨arr,t,o,q⟩:=G.cells wf r;exact⟨_,q⟩
  refine bo.mono (λE h' F q=> ?_) (aq6 (ba:=bM) (bd:=n) (bl:=(mQ ρ f cF.length).map (·.1)) (B:=λh=>kB cF h (mQ ρ f cF.length)) D G (bt _ rfl P all) (λh h' G b6=>G.NI wf b6) K ab hc L M bh N);obtain⟨r1,r2,r3,p,k,rfl,r5,r6⟩:=q;rw[hc];obtain⟨bq,bZ,cU,jA⟩:=arz S Q g y r2 r3 r5 r6;refine⟨r1,bq,bZ,.tuple (.cons (.agg (.cons ?_ (.cons (.int _ _) .nil))) (.cons (.bool _) .nil)),jA⟩;have:=bj.sl (ρ:=bq) (c:=H.an) (b:=p) (k:=k) 0 2 df cU;rw[oy]at this;exact this
def arK{l t:List o5}{H H':aE}{v:o5}{ρ:aX}{h:ae}{s:av}(d:zo l H=C (v,H'))(S:cD pv 12 ρ H.get H.an h)(g:cT ρ l t)(y:12<=H.an)(D:iD s):bo pv J (SM 203 210 os0 Post) 58 ⟨t⟩ s h λK h' L=>iD K/\∃bq,cD pv 12 bq H'.get H'.an h'/\bj bq v L/\gq H ρ h H' bq h':=by
 unfold zo at d;split at d
 .rename_i x bS fC fF;obtain⟨x',q,z,A,rfl⟩:∃x' q,cT ρ x x'/\cT ρ fF q/\t=[.agg ⟨x'⟩,.int .i64 bS,.func (.func fC) ⟨[]⟩ ⟨q⟩]:=by
   cases g with
   |cons a g=>cases g with
    |cons b g=>cases g with
     |cons c g=>
      cases g;cases a with
      |agg E=>
       cases b;cases c with
       |func f F G=>cases F;exact⟨_,_,E,G,rfl⟩
  cases h1:(td fC 59&&nn x (sW.map (lg da))&&decide (bS=1)&&nn fF [rl 641])with
  |true=>
   rw[h1,cond_true]at d;simp only[vh,decide_eq_true_eq]at h1;obtain⟨⟨⟨j,m⟩,u⟩,n⟩:=h1;have j:=atP j;have m:=zm m;have n:=zm n;subst j;subst m;subst u;subst n;refine Xo (nf:=pI) (gf:=λ_ _=>J) (ca:=(0,1)) (cb:=(1,2)) (kx:=1) Gm arH rfl rfl rfl aty aty (of_decide_eq_true arF) (Xn kA) (λdj I e all i=> ?_) d S z A y D;obtain⟨b0,k0,r,o⟩:=all 0 aty;cases e with
   |cons a e=>cases e;obtain⟨b,k,w,rfl⟩:=NM a;rw[(atz:da (13+0)=641),w]at o;cases o;exact arD r
  |false=>
   rw[h1,cond_false]at d;cases p:(td fC 61&&nn x (sW.map (lg dQ))&&decide (bS=2)&&nn fF [rl 681,rl 644])with
   |false=>rw[p,cond_false]at d;cases d
   |true=>
    rw[p,cond_true]at d;simp only[vh,decide_eq_true_eq]at p;obtain⟨⟨⟨j,m⟩,u⟩,n⟩:=p;have j:=atP j;have m:=zm m;have n:=zm n;subst j;subst m;subst u;subst n;refine Xo (nf:=NJ) (gf:=NK) (ca:=(0,0)) (cb:=(0,0)) (kx:=0) Gn arI rfl rfl rfl aty aty (of_decide_eq_true arG) (Xn pe) (λdj I e all i=> ?_) d S z A y D;obtain⟨b0,k0,r,o⟩:=all 0 aty;obtain⟨rC,vf,M,B⟩:=all 7 aty;cases e with
    |cons a e=>cases e with
     |cons a2 e=>cases e;obtain⟨b,k,w,rfl⟩:=NM a;obtain⟨bG,k',N,rfl⟩:=NM a2;rw[(atz:dQ (13+0)=681),w]at o;rw[(atz:dQ (13+7)=644),N]at B;cases o;cases B;exact arE r M
 .cases d
def arL{l:List o5}{H H':aE}{v:o5}(a:zo l H=C (v,H')):Can H H':=by
 have g:∀f cF c,zn f cF c H=C (v,H')->Can H H':=λf cF c a=>by
  unfold zn at a;cases b:ri H f cF 0 with
  |false=>rw[b]at a;cases a
  |true=>rw[b,cond_true]at a;cases a;exact arA b
 unfold zo at a;split at a
 .rename_i x bS fC fF;cases h1:(td fC 59&&nn x (sW.map (lg da))&&decide (bS=1)&&nn fF [rl 641])with
  |true=>rw[h1,cond_true]at a;exact g _ _ _ a
  |false=>
   rw[h1,cond_false]at a;cases d:(td fC 61&&nn x (sW.map (lg dQ))&&decide (bS=2)&&nn fF [rl 681,rl 644])with
   |true=>rw[d,cond_true]at a;exact g _ _ _ a
   |false=>rw[d,cond_false]at a;cases a
 .cases a
end
def Br(cells:List o5)(ns ck:Nat):List (o5×o5×Nat)->List Nat->Option Int
 | [],_=>C 0
 | (k,_,b)::l,bs=>match k with
  | .int .i64 n=>match mZ cells (n.toNat*4+3)with
   |some (.int .i64 q)=>cond (decide (0<=n)&&decide (n<ns)&&decide (0<=q)&&Kf b ck&& !(bs.contains b)) (match Br cells ns ck l (b::bs)with|some r=>C (q+r)|none=>o0) o0
   |_=>o0
  |_=>o0
def vg(e:HP):Int:=match e.key with|.int _ k=>k|_=>0
def zp(arr:Array o5)(e:HP):Int:=match arr[(vg e).toNat*4+3]? with|some (.int _ q)=>q|_=>0
def Xp{cells:List o5}{ns ck:Nat}{arr:Array o5}{ρ:aX}(m:cT ρ cells arr.toList):∀{es:List (o5×o5×Nat)} {bs:List Nat} {ms:List HP} {t:Int},Br cells ns ck es bs=C t->lY ρ es ms->(∀e∈ms,e.born<ck/\e.key=.int .i64 (vg e)/\(0<=vg e/\vg e<ns)/\arr[(vg e).toNat*4+3]? =C (.int .i64 (zp arr e))/\0<=zp arr e)/\(ms.map (·.born)).Nodup/\(∀e∈ms,e.born∉bs)/\jM (zp arr) ms=t
 | [],bs,[],t,h,_=>by simp only[Br,Option.some.injEq]at h;exact⟨Y,Y,Y,by simp[jM,h]⟩
 | (k,v,b)::l,bs,e::ms,t,h,⟨s,K,i,y⟩=>by
  unfold Br at h;split at h
  .rename_i n;split at h
   .rename_i q o;cases hc:(decide (0<=n)&&decide (n<(ns:Int))&&decide (0<=q)&&Kf b ck&& !(bs.contains b))with
    |false=>rw[hc]at h;cases h
    |true=>
     rw[hc,cond_true]at h;simp only[vh,decide_eq_true_eq,Bool.not_eq_true']at hc;obtain⟨⟨⟨⟨c1,c2⟩,c3⟩,c4⟩,c5⟩:=hc;split at h
     .rename_i r z;cases h;obtain⟨D,E,u,w⟩:=Xp m z y;have x:e.key=.int .i64 n:=by cases F:e.key<;>rw[F]at s<;>cases s;rfl
      have d:vg e=n:=by unfold vg;rw[x]
      have p:arr[n.toNat*4+3]? =C (.int .i64 q):=by rw[rH]at o;obtain⟨L,G,H⟩:=Lx m o;rw[<- Array.getElem?_toList,G];cases H;rfl
      have f:zp arr e=q:=by unfold zp;rw[d,p]
      have hb:b<ck:=by
       have:b+1<=ck:=by simpa[Kf]using c4
       omega
      have A:b∉bs:=by intro c;have:bs.contains b=J:=List.contains_iff_mem.2 c;rw[this]at c5;cases c5
      refine⟨λj g=> ?_,?_,λj g=> ?_,?_⟩
      .rcases B4.1 g with rfl|a
       .exact⟨by rw[i];exact hb,by rw[d];exact x,by rw[d];exact⟨c1,c2⟩,by rw[d,f];exact p,by rw[f];exact c3⟩
       .exact D j a
      .rw[atS,List.nodup_cons];refine⟨λc=> ?_,E⟩;obtain⟨I,a,B⟩:=aui.1 c;exact u I a (by rw[B,i];simp)
      .rcases B4.1 g with rfl|a
       .rw[i];exact A
       .exactλc=>u j a (by simp[c])
      .simp only[jM,atS,List.sum_cons]at w ⊢;rw[w,f]
     .cases h
   .cases h
  .cases h
 | [],_,_::_,_,_,h=>h.elim
 |_::_,_,[],_,_,h=>h.elim
def Bs:Code:=.seq (.region 0 ajv.toArray q9) (.seq (.region 1 aju.toArray q9) ajt)
noncomputable def NO:mx:=comp pv (dV 68) Bs
def Xq:comp pv (dV 68) Bs=NO:=rfl
def arM:NO.iy 12=J:=O
def arN:iJ pv (dV 68) Bs=J:=O
def NP(b:cL)(a:aE):Option (o5×aE):=match b.rd 2,b.rd 5,b.rd 1 with
 | .pointer (C ⟨g,0,o0⟩),.map (C m),.slice _ n _=>
  match a.get g,a.get m with
  |some (.cs _ q9 137 [.slice (C ⟨c,0,o0⟩) d _,_]),C (.mp _ es e)=>
   match a.get c with
   |some (.cs _ q9 51 cells)=>match Br cells d e es []with
    |some t=>cond (vd n 1000&&decide (t<=1000)) (C (.int .i64 (max 0 ((n:Int)- t)),a)) o0
    |none=>o0
   |_=>o0
  |_,_=>o0
 |_,_,_=>o0
def zq(l:List o5)(H:aE):Option (o5×aE):=match gK (eP fp iU 12) NO (sN 0 l .nil) H with
 | .ok .cx a b=>cond (vd l.length 48) (NP a b) o0
 |_=>o0
def arO:bz pv 68=J:=O
def cD.le{aQ:Nat}{ρ:aX}{G:Nat->Option cj}{an:Nat}{h h':ae}(S:cD pv aQ ρ G an h)(le:h.ar h'):cD pv aQ ρ G an h':=⟨λc x a=>by obtain⟨b,k,d,e⟩:=S.blk c x a;exact⟨b,k,d,ars le e⟩,S.inj,S.dX,S.rI⟩
def gq.rN{H c:aE}{ρ a:aX}{h h1 h':ae}(F:gq H ρ h c a h1)(le:h1.ar h'):gq H ρ h c a h':=⟨F.le,F.old,F.an,F.cg,F.bQ,F.can,λb x hb d=>le _ _ (F.lZ b x hb d),F.lB⟩
def arP{ρ:aX}{m:Nat}{v:o5}(h:bj ρ (.map (C m)) v):∃b k,ρ m=C (b,k)/\v=.map (C b):=by
 cases h with
 |map e=>exact⟨_,_,e,rfl⟩
def arQ{ρ:aX}{c o:Nat}{v:o5}(h:bj ρ (.pointer (C ⟨c,o,o0⟩)) v):∃b k,ρ c=C (b,k)/\v=.pointer (C ⟨b,o,o0⟩):=by
 cases h with
 |ptr o e=>exact⟨_,_,e,rfl⟩
def arR{ρ:aX}{a:Option Addr}{n c:Nat}{v:o5}(h:bj ρ (.slice a n c) v):∃b bJ,v=.slice b n bJ:=by
 cases h with
 |uh=>exact⟨_,_,rfl⟩
 |sl o n m e=>exact⟨_,_,rfl⟩
section
variable{os0:eI}{Post:o5->World->Prop}
def arS{l:List o5}{H H':aE}{v:o5}(a:zq l H=C (v,H')):Can H H':=by
 unfold zq at a;split at a
 .rename_i e H1 c;have d:Can H H1:=Pn (call:=eP fp iU 12) (CJ (orc:=iU) (λf xs v H H' a=>by cases a) 12) _ _ _ _ _ _ c;cases b:vd l.length 48 with
  |false=>rw[b]at a;cases a
  |true=>
   rw[b,cond_true]at a;unfold NP at a;split at a
   .split at a
    .split at a
     .split at a
      .rename_i t _;cases hc:(vd _ 1000&&decide (t<=1000))with
       |false=>rw[hc]at a;cases a
       |true=>rw[hc,cond_true]at a;cases a;exact d
      .cases a
     .cases a
    .cases a
   .cases a
 .cases a
def arT{l i:List o5}{H H':aE}{v:o5}{ρ:aX}{h:ae}{s:av}(b:zq l H=C (v,H'))(S:cD pv 12 ρ H.get H.an h)(u:cT ρ l i)(N:12<=H.an)(D:iD s):bo pv J (SM 203 210 os0 Post) 68 ⟨i⟩ s h λk h' v'=>iD k/\∃bq,cD pv 12 bq H'.get H'.an h'/\bj bq v v'/\gq H ρ h H' bq h':=by
 unfold zq at b;split at b
 case h_2=>cases b
 rename_i P H1 w;cases r:vd l.length 48 with
 |false=>rw[r]at b;cases b
 |true=>
  rw[r,cond_true]at b;have b0:i.length<=48:=by rw[u.length];simpa using r
  refine bL (n:=48) (args:=i) Tryz.func68 ajw rfl b0 ajx ?_;have G:=HE (main:=J) (SM 203 210 os0 Post) (λk=>k=s) iU (λf xs v H H' b=>by cases b) (λf xs v H H' b=>by cases b) 12;have Q:=HB (main:=J) (Sy:=SM 203 210 os0 Post) (Jz:=λk=>k=s) eR G (CJ (orc:=iU) (λf xs v H H' b=>by cases b) 12);change cB pv J (SM 203 210 os0 Post) 48 (fE 68) Bs (sF (cB pv J (SM 203 210 os0 Post) 48 (fE 68) AJ _) _) (dC i) [] s h;rw[<- Xq]at w;refine CC G Q (dV 68) Bs _ H ρ h (dC i) s .cx P H1 _ (by rw[Xq];exact arM) arN w S N rfl (Hp u) λs1 R e1 h1 o p q W=> ?_;subst o;show cB pv J (SM 203 210 os0 Post) 48 (fE 68) AJ _ e1 [] s1 h1;unfold NP at b;split at b
  case h_2=>cases b
  rename_i v2 v5 v1 g m a n c X ab ad;split at b
  case h_2=>cases b
  rename_i og st ns dq y om es ck af ag;split at b
  case h_2=>cases b
  rename_i dx cells az;split at b
  case h_2=>cases b
  rename_i t hU;cases hc:(vd n 1000&&decide (t<=1000))with
  |false=>rw[hc]at b;cases b
  |true=>
   rw[hc,cond_true]at b;cases b;simp only[vh,decide_eq_true_eq,Nat.ble_eq]at hc;obtain⟨hn,ht⟩:=hc;have I:=q 2;rw[X]at I;obtain⟨gb,kg,rg,e2⟩:=arQ I;have x:=q 5;rw[ab]at x;obtain⟨mb,km,cc,e5⟩:=arP x;have K:=q 1;rw[ad]at K;obtain⟨a',bJ,ba⟩:=arR K;obtain⟨bM,k1,A,bb,o1,eb,ec,L,p3,M,p5,p6,p7⟩:=p.blk g _ af;rw[rg]at A;cases A;obtain⟨bE,k2,o,ef,o2,q2,q3,q4⟩:=p.blk m _ ag;rw[cc]at o;cases o;obtain⟨b3,k3,bZ,B,o3,ek,en,cU,jA,fK,ie,t6,t7⟩:=p.blk st _ az;rw[t6 rfl,auI]at fK;rw[p6 rfl,auI]at M;cases p5 with
   |cons pa pb=>
    cases pb with
    |cons pc pd=>cases pd;obtain⟨b4,k4,E,e4⟩:=NN pa;rw[bZ]at E;cases E;subst e4;obtain⟨z,bn⟩:∃z,bb=#[.slice (C ⟨b3,0,o0⟩) ns (jr k3 dq),z]:=⟨_,by rw[<- Array.toList_inj,M]⟩;rw[bn]at L;obtain⟨j,u2,u3,F⟩:=Xp (arr:=B) (by rw[fK];exact ie) hU q4;refine akM (kE:=vg) (sE:=zp B) ba e2 e5 L cU q2 ⟨λe d=>(j e (by simpa using d)).1,u2,λe d=>(j e (by simpa using d)).2.1,λe d=>(j e (by simpa using d)).2.2.1,λe d=>(j e (by simpa using d)).2.2.2.1,λe d=>(j e (by simpa using d)).2.2.2.2,by rw[F];exact ht⟩ hn λh' le=> ?_;rw[F];exact⟨D,R,p.le le,.int _ _,W.rN le⟩
end
def kC(f:vb)(l:List o5)(H:aE):Option (Option (o5×aE)):=cond (td f 58) (C (zo l H)) (cond (td f 68) (C (zq l H)) o0)
def Gp(f:vb)(l:List o5)(H:aE):Option (o5×aE):=match kC f l H with|some r=>r|none=>o0
def Xr{f:vb}{l:List o5}{H H':aE}{v:o5}(a:Gp f l H=C (v,H')):(f=58/\zo l H=C (v,H'))\/(f=68/\zq l H=C (v,H')):=by
 unfold Gp kC at a;cases h1:td f 58 with
 |true=>rw[h1]at a;exact .inl ⟨atP h1,a⟩
 |false=>
  rw[h1]at a;cases b:td f 68 with
  |true=>rw[b]at a;exact .inr ⟨atP b,a⟩
  |false=>rw[b]at a;cases a
section
variable{os0:eI}{Post:o5->World->Prop}
def arU:qH pv J (SM 203 210 os0 Post) iD 12 Gp:=λf e v H H' c ρ h d s S a b D=>by
 rcases Xr c with⟨rfl,q⟩|⟨rfl,q⟩
 .exact⟨arJ,arK q S a b D⟩
 .exact⟨arO,arT q S a b D⟩
def Xs:rL Gp:=λf b v H H' a=>by
 rcases Xr a with⟨rfl,q⟩|⟨rfl,q⟩
 .exact arL q
 .exact arS q
def NQ(m:Nat):qH pv J (SM 203 210 os0 Post) iD 12 (eP fp kC m):=HE (SM 203 210 os0 Post) iD kC arU Xs m
end
def wR(n:Nat):o5:=.func (.func n) #[] #[]
def wS(H:aE):List Nat->dp cj->dp cj
 | [],t=>t
 |n::l,t=>match H.t.get n with|some x=>dp.iI x (n+1) t n λt=>wS H l t|none=>wS H l t
def oM(L:List Nat):jX->Option (cL×aE)
 | .ok .cx E H=>C (E,{H with t:=wS H L .nil})
 |_=>o0
abbrev aC(n:Int):o5:=.int .i64 n
abbrev fR(n:Nat):o5:=.pointer (C ⟨n,0,o0⟩)
abbrev eW(b n c:Nat):o5:=.slice (C ⟨b,0,o0⟩) n c
abbrev tO(l:List o5):o5:=.agg ⟨l⟩
abbrev sm(l:List o5):o5:=.tuple ⟨l⟩
abbrev vi(l:List UInt8):o5:=.string ⟨⟨l⟩⟩
abbrev Bt(n:Nat):o5:=.func (.func n) ⟨[]⟩ ⟨[]⟩
abbrev bD{α:Type}:dp α:=.nil
abbrev ao{α:Type}(x:α):dp α:=.node (C x) .nil .nil
abbrev br{α:Type}(l:dp α):dp α:=.node o0 l .nil
abbrev bI{α:Type}(r:dp α):dp α:=.node o0 .nil r
abbrev bg{α:Type}(l r:dp α):dp α:=.node o0 l r
abbrev ax{α:Type}(x:α)(l r:dp α):dp α:=.node (C x) l r
def pk:o5:=.bool q9
def dN:o5:=tO [eW 15 2 2,eW 36 2 2,aC 20,aC 1]
def ml:o5:=tO [eW 38 3 3,eW 39 5 5]
def ei:o5:=eW 42 2 2
def rm:o5:=tO [aC 0,aC 1]
def rp:o5:=tO [aC 0,aC 3]
def lk:o5:=eW 124 2 4611686018427387904
def ln:o5:=sm [eW 124 2 4611686018427387904,aC 0]
def mm:o5:=sm [tO [aC 15,aC 16],aC 0]
def tP:o5:=tO [aC 15,aC 16]
def nq:o5:=sm [aC 1,aC 0]
def oN:o5:=sm [tO [aC 7,aC 10],aC 0]
def wT:o5:=tO [aC 7,aC 10]
def lp:o5:=.bool J
def qd:o5:=sm [aC 2,aC 0,.bool J,aC 0]
def qe:o5:=tO [aC 0,aC 2]
def zr:o5:=eW 450 2 2
def sn:o5:=eW 642 2 4611686018427387904
def so:o5:=sm [eW 642 2 4611686018427387904,aC 12,aC 0]
def vj:o5:=sm [aC 0,.bool J,aC 0]
def zs:o5:=eW 765 5 4611686018427387904
def zt:o5:=sm [eW 765 5 4611686018427387904,aC 3,aC 0]
def Gq:o5:=sm [aC 2,aC 0]
def Xt:o5:=eW 1679 5 4611686018427387904
def Xu:o5:=sm [eW 1679 5 4611686018427387904,aC 0]
def oO:cj:=.cs q9 q9 145 [Bt 275,Bt 276,Bt 277]
def oP:cj:=.cs q9 q9 147 [Bt 289,Bt 250]
def wU:cj:=.cs J q9 3 [aC 5,aC 0,aC 9,aC 3]
def wV:cj:=.cs J q9 3 [aC 12,aC 12,aC 0,aC 0]
def wW:cj:=.cs J q9 46 [eW 13 4 4,eW 14 4 4]
def wX:cj:=.cs J q9 63 [aC 8,aC 8,aC 4,aC 4,aC 0,aC 2,aC 0,aC 0]
def wY:cj:=.cs J q9 63 [aC 6,aC 6,aC 6,aC 7,aC 0,aC 0,aC 0,aC 0]
def wZ:cj:=.cs J q9 49 [eW 25 4 4,eW 35 4 4]
def qh:cj:=.cs J q9 51 [vi [115],aC 70,aC 122,aC 2,vi [116],aC 50,aC 80,aC 1,vi [117],aC 70,aC 80,aC 1]
def qj:cj:=.cs J q9 53 [vi [97,110,110],aC 122,aC 60,aC 90,vi [98,111,98],aC 80,aC 40,aC 60,vi [99,105,100],aC 80,aC 50,aC 50,vi [100,111,116],aC 122,aC 70,aC 70,vi [101,118,101],aC 122,aC 70,aC 90]
def qm:cj:=.cs J q9 25 [eW 15 2 2,eW 36 2 2,aC 20,aC 1]
def qn:cj:=.cs J q9 29 [eW 38 3 3,eW 39 5 5]
def rq:cj:=.cs J q9 57 [aC 0,aC 1,aC 0,aC 3]
def sr:cj:=.cs J J 63 [aC 9,aC 9,aC 6,aC 8,aC 15,aC 16,aC 11,aC 11]
def ss:cj:=.cs J J 63 [aC 12,aC 12,aC 12,aC 12,aC 0,aC 0,aC 0,aC 0]
def sw:cj:=.cs J J 47 [eW 117 4 4611686018427387904,eW 122 4 4611686018427387904]
def tQ:cj:=.cs J q9 63 [aC 15,aC 16]
def w6:cj:=.cs J q9 63 [aC 7,aC 10]
def zu:cj:=.cs J q9 57 [aC 0,aC 2,aC 0,aC 2]
def Bu:cj:=.cs q9 q9 3 [aC 5,aC 0,aC 9,aC 3]
def Bv:cj:=.cs q9 q9 3 [aC 12,aC 12,aC 0,aC 0]
def Bw:cj:=.cs q9 q9 46 [eW 13 4 4,eW 14 4 4]
def Bx:cj:=.cs q9 q9 63 [aC 8,aC 8,aC 4,aC 4,aC 0,aC 2,aC 0,aC 0]
def By:cj:=.cs q9 q9 63 [aC 6,aC 6,aC 6,aC 7,aC 0,aC 0,aC 0,aC 0]
def BA:cj:=.cs q9 q9 49 [eW 25 4 4,eW 35 4 4]
def BB:cj:=.cs J J 57 [aC 0,aC 1,aC 1,aC 2]
def NR:cj:=.cs J J 3 [aC 0,aC 1,aC (-1),aC 0,aC (-1)]
def arV:cj:=.cs J J 3 [aC 0,aC 1,aC 2,aC 3,aC 4]
def Xv:cL:=bD
def BC:aE:=⟨ax oO (ao oP) bD,12,12,[]⟩
def Xw:cL:=ao pk
def Xx:aE:=⟨ax oO (ao oP) bD,12,12,[]⟩
def arW:List Nat:=[0,1]
def Xy:cL:=ax pk (ax (fR 40) bD (bI (bI (ao dN)))) (ax (fR 41) bD (bI (bI (ao ml))))
def Xz:aE:=⟨ax oO (ax oP (bg (bg (ao wW) (br (ao qj))) (br (br (ao wY)))) (bg (bI (ax wX (ao qn) bD)) (ao wU))) (bg (bg (bI (br (ao qm))) (br (br (ao wZ)))) (bI (ax wV (br (ao qh)) bD))),42,12,[]⟩
def arX:List Nat:=[0,1,13,14,15,25,35,36,38,39,40,41]
def XA:cL:=ax pk (ax (fR 40) (ax ei (br (br (ao rm))) bD) (bg (br (br (ao ei))) (bI (ao dN)))) (ax (fR 41) (br (br (br (ao rp)))) (bI (bI (ao ml))))
def XB:aE:=⟨ax oO (ax oP (bg (bg (ao wW) (br (ao qj))) (br (br (ao wY)))) (bg (bI (ax wX (ao qn) bD)) (ao wU))) (bg (bg (bI (br (ao qm))) (br (br (ao wZ)))) (bg (bI (br (ao rq))) (ax wV (br (ao qh)) bD))),43,12,[]⟩
def arY:List Nat:=[0,1,13,14,15,25,35,36,38,39,40,41,42]
def XC:cL:=ax pk (ax (fR 40) (ax ei (bg (br (ao rm)) (br (ao (aC 0)))) (br (br (ao dN)))) (ax (aC 0) (br (br (ao ei))) (bg (br (ao ln)) (ao dN)))) (ax (fR 41) (ax lk (br (br (ao rp))) (br (br (ao ei)))) (bg (br (br (ao ln))) (bg (br (ao lk)) (ao ml))))
def XD:aE:=⟨ax oO (ax oP (bg (bg (ao wW) (br (ao qj))) (br (br (ao wY)))) (bg (bI (ax wX (ao qn) bD)) (ax wU (bI (bI (ao sr))) bD))) (bg (bg (bI (br (ao qm))) (bg (br (ao wZ)) (bI (bI (ao sw))))) (bg (bI (bg (ao rq) (bI (ao ss)))) (ax wV (br (ao qh)) bD))),125,12,[]⟩
def arZ:List Nat:=[0,1,13,14,15,25,35,36,38,39,40,41,42,117,122,124]
def XE:cL:=ax pk (ax (fR 40) (ax ei (ax (aC 0) (br (ao rm)) (br (ao (aC 0)))) (bg (br (ao dN)) (br (ao mm)))) (ax (aC 0) (bg (br (ao ei)) (br (ao dN))) (bg (br (ao ln)) (ax dN (ao (aC 0)) bD)))) (ax (fR 41) (ax lk (bg (br (ao rp)) (br (ao mm))) (bg (br (ao ei)) (br (ao tP)))) (ax (fR 238) (bg (br (ao ln)) (br (ao ei))) (bg (br (ao lk)) (ao ml))))
def XF:aE:=⟨ax oO (ax oP (bg (bg (ao wW) (br (ao qj))) (br (br (ao wY)))) (bg (bI (ax wX (ao qn) bD)) (ax wU (bI (bI (ao sr))) bD))) (bg (bg (bI (br (ao qm))) (bg (br (ao wZ)) (bI (bI (ao sw))))) (bg (bI (bg (ao rq) (bI (ao ss)))) (ax wV (br (ao qh)) (br (bI (bI (ao tQ))))))),239,12,[]⟩
def ar0:List Nat:=[0,1,13,14,15,25,35,36,38,39,40,41,42,117,122,124,238]
def XG:cL:=ax pk (ax (fR 40) (ax ei (ax (aC 0) (bg (ao rm) (ao dN)) (br (ao (aC 0)))) (bg (bg (ao dN) (ao (aC 0))) (br (ao mm)))) (ax (aC 0) (ax (aC 0) (bg (ao ei) (ao nq)) (br (ao dN))) (bg (br (ao ln)) (ax dN (ao (aC 0)) bD)))) (ax (fR 41) (ax lk (ax (aC 1) (bg (ao rp) (ao ei)) (br (ao mm))) (bg (br (ao ei)) (br (ao tP)))) (ax (fR 238) (bg (bg (ao ln) (ao (aC 1))) (br (ao ei))) (bg (br (ao lk)) (ax ml (ao nq) bD))))
def XH:aE:=⟨ax oO (ax oP (bg (bg (ao wW) (br (ao qj))) (br (br (ao wY)))) (bg (bI (ax wX (ao qn) bD)) (ax wU (bI (bI (ao sr))) bD))) (bg (bg (bI (br (ao qm))) (bg (br (ao wZ)) (bI (bI (ao sw))))) (bg (bI (bg (ao rq) (bI (ao ss)))) (ax wV (br (ao qh)) (br (bI (bI (ao tQ))))))),354,12,[]⟩
def ar1:List Nat:=[0,1,13,14,15,25,35,36,38,39,40,41,42,117,122,124,238]
def XI:cL:=ax pk (ax (fR 40) (ax ei (ax (aC 0) (bg (ao rm) (ao dN)) (bg (ao (aC 0)) (ao oN))) (ax (aC 0) (bg (ao dN) (ao (aC 0))) (br (ao mm)))) (ax (aC 0) (ax (aC 0) (bg (ao ei) (ao nq)) (bg (ao dN) (ao (aC 0)))) (bg (bg (ao ln) (ao dN)) (ax dN (ao (aC 0)) bD)))) (ax (fR 41) (ax lk (ax (aC 1) (bg (ao rp) (ao ei)) (bg (ao mm) (ao wT))) (bg (bg (ao ei) (ao oN)) (br (ao tP)))) (ax (fR 238) (ax (fR 449) (bg (ao ln) (ao (aC 1))) (br (ao ei))) (bg (bg (ao lk) (ao ei)) (ax ml (ao nq) bD))))
def XJ:aE:=⟨ax oO (ax oP (bg (bg (ao wW) (br (ao qj))) (br (br (ao wY)))) (bg (bg (br (br (bI (bI (ao w6))))) (ax wX (ao qn) bD)) (ax wU (bI (bI (ao sr))) bD))) (bg (bg (bI (br (ao qm))) (bg (br (ao wZ)) (bI (bI (ao sw))))) (bg (bI (bg (ao rq) (bI (ao ss)))) (ax wV (br (ao qh)) (br (bI (bI (ao tQ))))))),450,12,[]⟩
def ar2:List Nat:=[0,1,13,14,15,25,35,36,38,39,40,41,42,117,122,124,238,449]
def XK:cL:=ax pk (ax (fR 40) (ax ei (ax (aC 0) (ax (aC 0) (ax rm (ao qd) bD) (ao dN)) (bg (ao (aC 0)) (ao oN))) (ax (aC 0) (bg (ax dN (ao (aC 0)) bD) (ao (aC 0))) (bg (ao mm) (ao dN)))) (ax (aC 0) (ax (aC 0) (bg (ax ei (ao (aC 0)) bD) (ao nq)) (bg (ao dN) (ao (aC 0)))) (ax (aC 0) (bg (ao ln) (ao dN)) (ax dN (ao (aC 0)) (ao qe))))) (ax (fR 41) (ax lk (ax (aC 1) (bg (ax rp (ao (aC 2)) bD) (ao ei)) (bg (ao mm) (ao wT))) (ax (aC 2) (bg (ao ei) (ao oN)) (bg (ao tP) (ao qe)))) (ax (fR 238) (ax (fR 449) (bg (ax ln (ao lp) bD) (ao (aC 1))) (bg (ao ei) (ao qd))) (ax lp (bg (ao lk) (ao ei)) (ax ml (ao nq) (ao zr)))))
def XL:aE:=⟨ax oO (ax oP (bg (bg (ao wW) (br (ao qj))) (br (br (ao wY)))) (bg (bg (br (br (bI (bI (ao w6))))) (ax wX (ao qn) bD)) (ax wU (bI (bI (ao sr))) bD))) (bg (bg (bI (br (ao qm))) (bg (br (ao wZ)) (bI (bI (ao sw))))) (bg (bg (br (br (bI (bI (ao zu))))) (bg (ao rq) (bI (ao ss)))) (ax wV (br (ao qh)) (br (bI (bI (ao tQ))))))),604,12,[]⟩
def ar3:List Nat:=[0,1,13,14,15,25,35,36,38,39,40,41,42,117,122,124,238,449,450]
def XM:cL:=ax pk (ax (fR 40) (ax ei (ax (aC 0) (ax (aC 0) (ax rm (ao qd) bD) (ao dN)) (bg (ax (aC 0) (ao sn) bD) (ao oN))) (ax (aC 0) (bg (ax dN (ao (aC 0)) bD) (ao (aC 0))) (bg (ao mm) (ao dN)))) (ax (aC 0) (ax (aC 0) (ax (aC 12) (ax ei (ao (aC 0)) bD) (ao nq)) (bg (ax dN (ao (aC 0)) bD) (ao (aC 0)))) (ax (aC 0) (bg (ax ln (ao dN) bD) (ao dN)) (ax dN (ao (aC 0)) (ao qe))))) (ax (fR 41) (ax lk (ax (aC 1) (ax sn (ax rp (ao (aC 2)) bD) (ao ei)) (bg (ax mm (ao (aC 12)) bD) (ao wT))) (ax (aC 2) (bg (ax ei (ao so) bD) (ao oN)) (bg (ao tP) (ao qe)))) (ax (fR 238) (ax (fR 449) (ax (aC 0) (ax ln (ao lp) bD) (ao (aC 1))) (bg (ao ei) (ao qd))) (ax lp (bg (ax lk (ao so) bD) (ao ei)) (ax ml (ao nq) (ao zr)))))
def XN:aE:=⟨ax oO (ax oP (bg (bg (ao Bw) (br (ao qj))) (br (br (ao By)))) (bg (bg (br (br (bI (bI (ao w6))))) (ax Bx (ao qn) bD)) (ax Bu (bI (bI (ao sr))) bD))) (bg (bg (bI (br (ao qm))) (bg (br (ao BA)) (bI (bI (ao sw))))) (bg (bg (br (br (bg (bI (br (ao BB))) (bI (ao zu))))) (bg (ao rq) (bI (ao ss)))) (ax Bv (br (ao qh)) (br (bI (bI (ao tQ))))))),644,12,[]⟩
def ar4:List Nat:=[0,1,13,14,15,25,35,36,38,39,40,41,42,117,122,124,238,449,450,642]
def XO:cL:=ax pk (ax (fR 40) (ax ei (ax (aC 0) (ax (aC 0) (ax rm (ao qd) bD) (ax dN (ao (aC 0)) bD)) (bg (ax (aC 0) (ao sn) bD) (ao oN))) (ax (aC 0) (ax (aC 0) (ax dN (ao (aC 0)) bD) (ao (aC 0))) (bg (ax mm (ao dN) bD) (ao dN)))) (ax (aC 0) (ax (aC 0) (ax (aC 12) (ax ei (ao (aC 0)) bD) (ao nq)) (bg (ax dN (ao (aC 0)) bD) (ao (aC 0)))) (ax (aC 0) (ax (aC 0) (ax ln (ao dN) bD) (ao dN)) (ax dN (ax (aC 0) (ao (aC 0)) bD) (ao qe))))) (ax (fR 41) (ax lk (ax (aC 1) (ax sn (ax rp (ao (aC 2)) bD) (ao ei)) (bg (ax mm (ao (aC 12)) bD) (ao wT))) (ax (aC 2) (ax lp (ax ei (ao so) bD) (ao oN)) (bg (ax tP (ao vj) bD) (ao qe)))) (ax (fR 238) (ax (fR 449) (ax (aC 0) (ax ln (ao lp) bD) (ao (aC 1))) (bg (ax ei (ao vj) bD) (ao qd))) (ax lp (bg (ax lk (ao so) bD) (ao ei)) (ax ml (ax nq (ao lp) bD) (ao zr)))))
def XP:aE:=⟨ax oO (ax oP (bg (bg (ao Bw) (br (ao qj))) (br (br (ao By)))) (bg (bg (br (br (bI (bI (ao w6))))) (ax Bx (ao qn) bD)) (ax Bu (bI (bI (ao sr))) bD))) (bg (bg (bI (br (ao qm))) (bg (br (ao BA)) (bI (bI (ao sw))))) (bg (bg (br (br (bg (bI (br (ao BB))) (bI (ao zu))))) (bg (ao rq) (bI (ao ss)))) (ax Bv (br (ao qh)) (br (bI (bI (ao tQ))))))),684,12,[]⟩
def ar5:List Nat:=[0,1,13,14,15,25,35,36,38,39,40,41,42,117,122,124,238,449,450,642]
def XQ:cL:=ax pk (ax (fR 40) (ax ei (ax (aC 0) (ax (aC 0) (ax rm (ao qd) bD) (ax dN (ao (aC 0)) bD)) (ax (aC 3) (ax (aC 0) (ao sn) bD) (ao oN))) (ax (aC 0) (ax (aC 0) (ax dN (ao (aC 0)) bD) (ax (aC 0) (ao zs) bD)) (bg (ax mm (ao dN) bD) (ao dN)))) (ax (aC 0) (ax (aC 0) (ax (aC 12) (ax ei (ao (aC 0)) bD) (ax nq (ao ml) bD)) (bg (ax dN (ao (aC 0)) bD) (ao (aC 0)))) (ax (aC 0) (ax (aC 0) (ax ln (ao dN) bD) (ax dN (ao (aC 0)) bD)) (ax dN (ax (aC 0) (ao (aC 0)) bD) (ao qe))))) (ax (fR 41) (ax lk (ax (aC 1) (ax sn (ax rp (ao (aC 2)) bD) (ax ei (ao zt) bD)) (ax (aC 0) (ax mm (ao (aC 12)) bD) (ao wT))) (ax (aC 2) (ax lp (ax ei (ao so) bD) (ax oN (ao (aC 3)) bD)) (bg (ax tP (ao vj) bD) (ao qe)))) (ax (fR 238) (ax (fR 449) (ax (aC 0) (ax ln (ao lp) bD) (ax (aC 1) (ao zt) bD)) (bg (ax ei (ao vj) bD) (ao qd))) (ax lp (ax zs (ax lk (ao so) bD) (ao ei)) (ax ml (ax nq (ao lp) bD) (ao zr)))))
def XR:aE:=⟨ax oO (ax oP (bg (bg (ao Bw) (br (ao qj))) (br (br (ao By)))) (bg (bg (br (br (bI (bI (ao w6))))) (ax Bx (ao qn) bD)) (ax Bu (bI (bI (ao sr))) (bI (bI (bI (bI (br (ao NR))))))))) (bg (bg (bI (br (ao qm))) (bg (br (ao BA)) (bI (bI (ao sw))))) (bg (bg (br (br (bg (bI (br (ao BB))) (bI (ao zu))))) (bg (ao rq) (bI (ao ss)))) (ax Bv (br (ao qh)) (br (bI (bI (ao tQ))))))),812,12,[]⟩
def ar6:List Nat:=[0,1,13,14,15,25,35,36,38,39,40,41,42,117,122,124,238,449,450,642,765]
def XS:cL:=ax pk (ax (fR 40) (ax ei (ax (aC 0) (ax (aC 0) (ax rm (ao qd) bD) (ax dN (ao (aC 0)) bD)) (ax (aC 3) (ax (aC 0) (ao sn) bD) (ax oN (ao ml) bD))) (ax (aC 0) (ax (aC 0) (ax dN (ao (aC 0)) bD) (ax (aC 0) (ao zs) bD)) (bg (ax mm (ao dN) bD) (ao dN)))) (ax (aC 0) (ax (aC 0) (ax (aC 12) (ax ei (ao (aC 0)) bD) (ax nq (ao ml) bD)) (ax (aC 2) (ax dN (ao (aC 0)) bD) (ax (aC 0) (ao (aC 2)) bD))) (ax (aC 0) (ax (aC 0) (ax ln (ao dN) bD) (ax dN (ao (aC 0)) bD)) (ax dN (ax (aC 0) (ao (aC 0)) bD) (ao qe))))) (ax (fR 41) (ax lk (ax (aC 1) (ax sn (ax rp (ao (aC 2)) bD) (ax ei (ao zt) bD)) (ax (aC 0) (ax mm (ao (aC 12)) bD) (ax wT (ao Gq) bD))) (ax (aC 2) (ax lp (ax ei (ao so) bD) (ax oN (ao (aC 3)) bD)) (bg (ax tP (ao vj) bD) (ao qe)))) (ax (fR 238) (ax (fR 449) (ax (aC 0) (ax ln (ao lp) bD) (ax (aC 1) (ao zt) bD)) (ax (aC 0) (ax ei (ao vj) bD) (ax qd (ao (aC 0)) bD))) (ax lp (ax zs (ax lk (ao so) bD) (ax ei (ao Gq) bD)) (ax ml (ax nq (ao lp) bD) (ao zr)))))
def XT:aE:=⟨ax oO (ax oP (bg (bg (ao Bw) (br (ao qj))) (br (br (ao By)))) (bg (bg (br (br (bI (bI (ao w6))))) (ax Bx (ao qn) bD)) (ax Bu (bI (bI (ao sr))) (bI (bI (bI (bI (br (ao NR))))))))) (bg (bg (bI (br (ao qm))) (bg (br (ao BA)) (bI (bI (ao sw))))) (bg (bg (br (br (bg (bI (br (ao BB))) (bI (ao zu))))) (bg (ao rq) (bI (ao ss)))) (ax Bv (br (ao qh)) (br (bI (bI (ao tQ))))))),899,12,[]⟩
def ar7:List Nat:=[0,1,13,14,15,25,35,36,38,39,40,41,42,117,122,124,238,449,450,642,765]
def BD:cL:=ax pk (ax (fR 40) (ax ei (ax (aC 0) (ax (aC 0) (ax rm (ao qd) (ao (aC 0))) (ax dN (ao (aC 0)) bD)) (ax (aC 3) (ax (aC 0) (ao sn) bD) (ax oN (ao ml) bD))) (ax (aC 0) (ax (aC 0) (ax dN (ao (aC 0)) bD) (ax (aC 0) (ao zs) bD)) (ax Xt (ax mm (ao dN) bD) (ax dN (ao Xu) bD)))) (ax (aC 0) (ax (aC 0) (ax (aC 12) (ax ei (ao (aC 0)) bD) (ax nq (ao ml) bD)) (ax (aC 2) (ax dN (ao (aC 0)) bD) (ax (aC 0) (ao (aC 2)) bD))) (ax (aC 0) (ax (aC 0) (ax ln (ao dN) bD) (ax dN (ao (aC 0)) bD)) (ax dN (ax (aC 0) (ao (aC 0)) bD) (ax qe (ao Xu) bD))))) (ax (fR 41) (ax lk (ax (aC 1) (ax sn (ax rp (ao (aC 2)) bD) (ax ei (ao zt) bD)) (ax (aC 0) (ax mm (ao (aC 12)) bD) (ax wT (ao Gq) bD))) (ax (aC 2) (ax lp (ax ei (ao so) bD) (ax oN (ao (aC 3)) bD)) (ax (aC 0) (ax tP (ao vj) bD) (ax qe (ao ml) bD)))) (ax (fR 238) (ax (fR 449) (ax (aC 0) (ax ln (ao lp) bD) (ax (aC 1) (ao zt) bD)) (ax (aC 0) (ax ei (ao vj) bD) (ax qd (ao (aC 0)) bD))) (ax lp (ax zs (ax lk (ao so) bD) (ax ei (ao Gq) bD)) (ax ml (ax nq (ao lp) bD) (ax zr (ao Xt) bD)))))
def vl:aE:=⟨ax oO (ax oP (bg (bg (ax Bw bD (br (br (bI (br (bI (ao arV))))))) (br (ao qj))) (br (br (ao By)))) (bg (bg (br (br (bI (bI (ao w6))))) (ax Bx (ao qn) bD)) (ax Bu (bI (bI (ao sr))) (bI (bI (bI (bI (br (ao NR))))))))) (bg (bg (bI (br (ao qm))) (bg (br (ao BA)) (bI (bI (ao sw))))) (bg (bg (br (br (bg (bI (br (ao BB))) (bI (ao zu))))) (bg (ao rq) (bI (ao ss)))) (ax Bv (br (ao qh)) (br (bI (bI (ao tQ))))))),1717,12,[]⟩
def ar8:List Nat:=[0,1,13,14,15,25,35,36,38,39,40,41,42,117,122,124,238,449,450,642,765,1679]
end
end Go.Nk
