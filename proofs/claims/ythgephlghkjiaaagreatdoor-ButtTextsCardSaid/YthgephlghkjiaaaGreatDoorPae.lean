/- Part Pae of the proof of ButtTexts: lemmas. -/
import Derived.Test.YthgephlghkjiaaaGreatDoorPad
set_option maxRecDepth 100000
set_option maxHeartbeats 4000000
set_option linter.all false
namespace Go.Nk
noncomputable section
open Go Go.Conc Go.Proofs
open _root_.Array renaming getElem?_eq_getElem->aul,length_toList->au7,range->avw,getElem?_range->aBl
open Bool renaming true->J,false->q9,true_and->awQ,false_and->auH,eq_iff_iff->avL,false_eq_true->N2,and_eq_true->vh
open ByteArray.toList renaming loop->azF
open Go renaming Program->tb,Value->o5,TypeId->ta,FuncId->vb,Operand->su,IntKind->E1,eqGuard->W2,binOp->M5,Addr->vm,asIntOf->avr
open Go.Instr renaming makeInterface->auW,makeMap->axk,extract->avo,fill->ayO,build->atW,buildSlice->atX,indexAt->auX,sureAddr->avI,index->auG,sliceBound->aBo,sliceBounds->awz,sliceAt->K0,slice->awX
open Go.IntKind renaming wrap->aur,bits->auQ,signed->auR
open Go.Op renaming intArith->au0,intCmp->awV,intBits->ayM,equal->auz,equalIn->at1,stringOp->axO
open Int renaming ofNat->aww,negSucc->azC,negSucc_eq->axo,ofNat_le->azD,ofNat_eq_natCast->avM,natCast_emod->aBh,toNat_natCast->avt
open List renaming drop_eq_getElem_cons->atQ,length_cons->RF,length_append->M3,drop_append_of_le_length->aBf,take_append_of_le_length->aBg,getElem?_toArray->au1,map_cons->atS,getElem?_eq_none->au6
open Nat renaming add_zero->asg,ble->vd,le_of_ble_eq_true->at4,le_refl->vr,beq->td,eq_of_beq_eq_true->atP,blt->Kf,ble_eq_true_of_le->aus,min_eq_left->azE,succ_mul->awy,add_mul->avh,le_of_mul_le_mul_right->azK
open Option renaming some->C,none->o0,isSome_iff_exists->aud,map_some->avb
open Option.some renaming injEq->W6
open Prod.mk renaming injEq->at5
section
variable{P:tb}{aQ:Nat}{ρ:aX}{H:aE}{h:ae}
def OG{b o:Nat}{arr:Array o5}{t:ta}{f:Nat×Nat}{p:Bool}(hb:h b=C ⟨.cells arr t f,p⟩):∀(n i:Nat),o+i+n<=arr.size->h.iS ⟨b,o,o0⟩ i n=C ((arr.toList.drop (o+i)).take n):=by
 intro n
 induction n with
 |zero=>intro i hi;rfl
 |succ n a=>
  intro i hi;have hc:h.cell? ⟨b,o+i,o0⟩=arr[o+i]? :=by simp[ae.cell?,hb]
  rw[pG,hc,a (i+1) U,aul U];simp only[qB];have c:o+i<arr.toList.length:=by simpa using(by omega:o+i<arr.size)
  rw[atQ c,List.take_succ_cons];simp[Nat.add_assoc]
def OH{b o:Nat}{t:ta}{K:ae->Prop}:∀(vs l:List o5) (i:Nat) (h:ae),h b=C ⟨.cells ⟨l⟩ t (0,0),J⟩->o+i+vs.length<=l.length->pD vs=J->K (h.put b ⟨.cells ⟨ib (o+i) vs l⟩ t (0,0),J⟩)->nx h ⟨b,o,o0⟩ i vs K:=by
 intro vs
 induction vs with
 |nil=>
  intro l i h hb _ _ k;rw[xH]at k;have:h.put b ⟨.cells ⟨l⟩ t (0,0),J⟩=h:=by funext c;simp only[ae.put];split<;>simp_all
  rw[this]at k;exact k
 |cons v vs f=>
  intro l i h hb g j k;simp only[RF]at g;simp only[pD]at j;have d:jG v=J/\pD vs=J:=by cases m:jG v<;>simp_all
  have hc:h.cell? ⟨b,o+i,o0⟩=(⟨l⟩:Array o5)[o+i]? :=by simp[ae.cell?,hb]
  have hs:h.setCell ⟨b,o+i,o0⟩ v=h.put b ⟨.cells ⟨l.set (o+i) v⟩ t (0,0),J⟩:=by rw[N8 (a:=⟨b,o+i,o0⟩) hb];simp
  refine⟨⟨d.1,?_⟩,?_⟩
  .rw[kU];refine⟨by simp[ae.owns,hb],?_,?_⟩
   .rw[hc,aul (by simpa using(by omega:o+i<l.length))];rfl
   .simp[ae.frozen?,hb]
  .rw[kU,hs];refine f (l.set (o+i) v) (i+1) _ (rv ..) atB d.2 ?_;rw[oS];have e:o+(i+1)=(o+i)+1:=U
   rw[e,OB U];exact k
def OI{β:Type}{c o n:Nat}{k:List o5->Option β}{r:β}(a:pE H c o n k=C r):∃own lo t cs,H.get c=C (.cs own lo t cs)/\o+n<=cs.length+(if n=0 then o else 0)/\k ((cs.drop o).take n)=C r:=by
 unfold pE at a;split at a
 .rename_i own lo t cs b;rw[vL]at a;obtain⟨h1,d⟩:=xG _ _ _ _ a;refine⟨own,lo,t,cs,b,?_,d⟩;simp at h1;split<;>omega
 .cases a
def xK{β:Type}(S:cD P aQ ρ H.get H.an h){c o n b kk:Nat}(hc:ρ c=C (b,kk)){k:List o5->Option β}{r:β}(j:pE H c o n k=C r):∃vs a,k vs=C r/\cT ρ vs a/\vs.length=n/\h.iS ⟨b,o,o0⟩ 0 n=C a/\∃y,h b=C y:=by
 obtain⟨own,lo,t,cs,i,d,l⟩:=OI j;obtain⟨bG,k',e,hb⟩:=S.blk c _ i;rw[hc]at e;cases e;obtain⟨arr,fu,bJ,rest,h1,q,f,g,s⟩:=hb;refine⟨_,(bJ.drop o).take n,l,(g.drop o).take n,?_,?_,_,h1⟩
 .simp;split at d<;>omega
 .by_cases h0:n=0
  .subst h0;simp[ae.iS]
  .rw[if_neg h0]at d;have m:=g.length;have p:arr.size=bJ.length+rest.length:=by rw[<- au7,f,M3]
   rw[OG h1 n 0 U,f,asg];congr 1;rw[aBf U,aBg atB]
def Cm{c:Nat}{x:cj}(a:vd H.cg c=J)(b:H.get c=C x)(d:x.live=J):gL H c:=⟨at4 a,x,b,d⟩
def Ha(S:cD P aQ ρ H.get H.an h){c b kk:Nat}{x y:cj}{o:dL}(a:H.get c=C x)(n:gL H c)(g:x.live=J)(hc:ρ c=C (b,kk))(s:Bk P ρ kk y (C o)):cD P aQ ρ (H.set c y).get (H.set c y).an (h.put b o)/\gq H ρ h (H.set c y) ρ (h.put b o):=by
 have B:c<H.an:=Nat.lt_of_not_le λt=>by rw[S.dX c t]at hc;cases hc
 refine⟨⟨λd z hd=> ?_,λd e u v bb k k' hd i p l h1 f=> ?_,S.dX,S.rI⟩,.refl ρ,λ_ _=>rfl,vr _,rfl,rfl,λd hd j=> ?_,λbb z hb w=> ?_,λd u bb k hd j g h1=> ?_⟩
 .rw[aE.sO a]at hd;split at hd
  .rename_i e;subst e;cases hd;exact⟨b,kk,hc,by rw[rv];exact s⟩
  .rename_i e;obtain⟨bb,k,h1,f⟩:=S.blk d z hd;refine⟨bb,k,h1,?_⟩;cases m:z.live with
   |false=>cases z<;>simp[cj.live]at m;trivial
   |true=>have:bb≠b:=λA=>e (S.inj d c z x bb k kk hd a m g h1 (by rw[A];exact hc));rw[oe _ _ this];exact f
 .rw[aE.sO a]at hd i;split at hd<;>split at i<;>rename_i q r
  .rw[q,r]
  .subst q;exact(S.inj d e x v bb k k' a i g l h1 f)
  .subst r;exact(S.inj d e u x bb k k' hd a p g h1 f)
  .exact S.inj d e u v bb k k' hd i p l h1 f
 .rw[aE.vM,if_neg (λe=>j (by rw[e];exact n))]
 .have:bb≠b:=λe=>w c kk n (by rw[e];exact hc);rw[oe _ _ this];exact hb
 .rw[S.dX d j]at h1;cases h1
def zY{β:Type}(S:cD P aQ ρ H.get H.an h){c o b kk:Nat}(hc:ρ c=C (b,kk)){vs f:List o5}(g:cT ρ vs f){k:aE->Option β}{r:β}(a:sK H c o vs k=C r):∃m h1,k m=C r/\cD P aQ ρ m.get m.an h1/\gq H ρ h m ρ h1/\∀K:ae->Prop,K h1->nx h ⟨b,o,o0⟩ 0 f K:=by
 unfold sK at a;split at a
 .rename_i lo t cs n;cases p:vd H.cg c with
  |false=>rw[p]at a;cases a
  |true=>
   rw[p,cond_true]at a;cases q:pD vs with
   |false=>rw[q]at a;cases a
   |true=>
    rw[q,cond_true]at a;obtain⟨i,x⟩:=xI _ _ _ _ _ a;rw[aE.nB]at x;obtain⟨bG,k',v,hb⟩:=S.blk c _ n;rw[hc]at v;cases v;obtain⟨arr,fu,bJ,rest,h1,D,y,z,E,F⟩:=hb;have A:=D rfl;subst A;obtain⟨l⟩:=arr;simp only at y;subst y;have L:=z.length;have I:=g.length;have w:ib o f (bJ++rest)=ib o f bJ++rest:=by
     rcases i with rfl|i
     .cases g;simp[xH]
     .simp only[ib];rw[aBg U,aBf U];simp
    have B:Bk P ρ kk (.cs J lo t (ib o vs cs)) (C ⟨.cells ⟨ib o f (bJ++rest)⟩ t (0,0),J⟩):=by
     refine⟨_,J,ib o f bJ,rest,rfl,λ_=>rfl,w,z.ib g o,E,λe=> ?_⟩;obtain⟨G,s,u⟩:=F e;refine⟨G,s,?_⟩;rw[<- u,w];rcases i with rfl|i
     .cases g;simp[xH]
     .simp only[List.size_toArray,M3,Oz (U:o+f.length<=bJ.length)]
    obtain⟨s,u⟩:=Ha S n (Cm p n rfl) rfl hc B;refine⟨_,_,x,s,u,λK j=> ?_⟩;rcases i with rfl|i
    .cases g;rw[xH]at j;have:h.put b ⟨.cells ⟨bJ++rest⟩ t (0,0),J⟩=h:=by funext d;simp only[ae.put];split<;>simp_all
     rw[this]at j;exact j
    .exact OH f (bJ++rest) 0 h h1 atB (by rw[g.OC];exact q) j
 .cases a
def aX.ext(ρ:aX)(c b k:Nat):aX:=λd=>if d=c then C (b,k)else ρ d
def aX.xL{ρ:aX}{c b k:Nat}(hc:ρ c=o0):ρ.ar (ρ.ext c b k):=λd x hd=>by
 unfold aX.ext;split
 .rename_i e;subst e;rw[hc]at hd;cases hd
 .exact hd
def aX.mz{ρ:aX}{c b k:Nat}:ρ.ext c b k c=C (b,k):=by simp[aX.ext]
def aX.l6{ρ:aX}{c b k d:Nat}(hd:d≠c):ρ.ext c b k d=ρ d:=by simp[aX.ext,hd]
def Cn(S:cD P aQ ρ H.get H.an h){b kk:Nat}{x:cj}{o:dL}(F:aQ<=H.an)(hb:h b=o0)(E:Bk P (ρ.ext H.an b kk) kk x (C o)):cD P aQ (ρ.ext H.an b kk) (H.new x).get (H.new x).an (h.put b o)/\gq H ρ h (H.new x) (ρ.ext H.an b kk) (h.put b o):=by
 have w:=S.dX H.an (vr _);have le:=aX.xL (b:=b) (k:=kk) w;have c:∀d z,(H.new x).get d=C z->d≠H.an->H.get d=C z:=λd z hd A=>by rw[aE.vN,if_neg A]at hd;exact hd
 have same:∀z,(H.new x).get H.an=C z->z=x:=λz hd=>by
  rw[aE.vN,if_pos rfl]at hd;split at hd
  .cases hd
  .cases hd;rfl
 have lz:∀d z bb k,H.get d=C z->z.live=J->ρ d=C (bb,k)->bb≠b:=λd z bb k hd m B e=>by obtain⟨bG,k',h1,a⟩:=S.blk d z hd;rw[B]at h1;cases h1;obtain⟨y,n⟩:=a.isSome m;rw[e,hb]at n;cases n
 refine⟨⟨λd z hd=> ?_,λd e u v bb k k' hd s t p h1 a=> ?_,λd hd=> ?_,λg D=> ?_⟩,le,λd hd=>aX.l6 U,Nat.le_succ _,rfl,rfl,λd hd q=> ?_,λbb z j G=> ?_,λd u bb k hd q m h1=> ?_⟩
 .by_cases e:d=H.an
  .subst e;rw[same z hd];exact⟨b,kk,aX.mz,by rw[rv];exact E⟩
  .have l:=c d z hd e;obtain⟨bb,k,h1,a⟩:=S.blk d z l;refine⟨bb,k,by rw[aX.l6 e];exact h1,?_⟩;cases r:z.live with
   |false=>cases z<;>simp[cj.live]at r;trivial
   |true=>rw[oe _ _ (lz d z bb k l r h1)];exact a.mono le
 .by_cases f:d=H.an<;>by_cases i:e=H.an
  .rw[f,i]
  .subst f;rw[aX.mz]at h1;cases h1;rw[aX.l6 i]at a;exact absurd rfl (lz e v b k' (c e v s i) p a)
  .subst i;rw[aX.mz]at a;cases a;rw[aX.l6 f]at h1;exact absurd rfl (lz d u b k (c d u hd f) t h1)
  .rw[aX.l6 f]at h1;rw[aX.l6 i]at a;exact S.inj d e u v bb k k' (c d u hd f) (c e v s i) t p h1 a
 .have:H.an+1<=d:=hd;rw[aX.l6 U];exact S.dX d U
 .rw[aX.l6 U];exact S.rI g D
 .rw[aE.ug,if_neg U]
 .have:bb≠b:=λe=>by rw[e,hb]at j;cases j
  rw[oe _ _ this];exact j
 .by_cases e:d=H.an
  .subst e;rw[aX.mz]at h1;cases h1;exact .inl hb
  .have l:=c d u hd e;rw[aX.l6 e,S.dX d q]at h1;cases h1
end
def fQ(P:tb)(aQ:Nat)(ρ:aX)(H:aE)(h:ae)(v:o5)(H':aE)(K:o5->ae->Prop):Prop:=∀bq h' a,cD P aQ bq H'.get H'.an h'->bj bq v a->gq H ρ h H' bq h'->K a h'
section
variable{P:tb}{aQ:Nat}{ρ:aX}{H H':aE}{h:ae}{call:vb->List o5->aE->Option (o5×aE)}{e:cL}{v:o5}{K:o5->ae->Prop}
def fQ.same(S:cD P aQ ρ H.get H.an h)(k:fQ P aQ ρ H h v H K){a:o5}(b:bj ρ v a):K a h:=k ρ h a S b (gq.refl S)
def ZD(S:cD P aQ ρ H.get H.an h){c x y:su}{bJ x' d:o5}(a:cy call e H (.pick c x y)=C (v,H'))(hc:bj ρ (bW e c) bJ)(h1:bj ρ (bW e x) x')(f:bj ρ (bW e y) d)(k:fQ P aQ ρ H h v H' K):@al P _ (vt bJ x' d) h ⟨K⟩:=by
 simp only[cy]at a;split at a
 .rename_i b;cases a;rw[b]at hc;cases hc;exact k.same S h1
 .rename_i b;cases a;rw[b]at hc;cases hc;exact k.same S f
 .cases a
def ZE(S:cD P aQ ρ H.get H.an h)(c:aQ<=H.an){t:ta}{z:o5}(d:fw P t=C z)(f:lC (eD z)=J)(a:cy call e H (.alloc t (eD z))=C (v,H'))(k:fQ P aQ ρ H h v H' K):@al P _ (Instr.alloc t J (.tuple #[])) h ⟨K⟩:=by
 rw[GV (K:=⟨K⟩) d];intro b hb;simp only[cy,aE.qD,W6,at5]at a;obtain⟨rfl,rfl⟩:=a;obtain⟨g,i⟩:=Cn S (kk:=0) (x:=.cs J q9 t (eD z)) (o:=⟨.cells z.cells t,J⟩) c hb ⟨_,J,z.cells.toList,[],rfl,λ_=>rfl,Y,by rw[<- sP];exact vO f,λ_=>rfl,λe=>by cases e⟩;exact k _ _ _ g (.ptr 0 aX.mz) i
def Hb(S:cD P aQ ρ H.get H.an h)(c:aQ<=H.an){t:ta}{l a:List o5}{b:Nat}(hb:h b=o0)(d:cT ρ l a):cD P aQ (ρ.ext H.an b 0) (H.new (.cs J q9 t l)).get (H.new (.cs J q9 t l)).an (h.put b ⟨.cells ⟨a⟩ t,J⟩)/\gq H ρ h (H.new (.cs J q9 t l)) (ρ.ext H.an b 0) (h.put b ⟨.cells ⟨a⟩ t,J⟩):=
 Cn S (kk:=0) (x:=.cs J q9 t l) (o:=⟨.cells ⟨a⟩ t,J⟩) c hb ⟨_,J,a,[],rfl,λ_=>rfl,Y,d.mono (aX.xL (S.dX _ (vr _))),λ_=>rfl,λe=>by cases e⟩
def ZF(S:cD P aQ ρ H.get H.an h)(d:aQ<=H.an){t n:Nat}{x:su}{x':o5}(a:cy call e H (.box t n x)=C (v,H'))(h1:bj ρ (bW e x) x')(k:fQ P aQ ρ H h v H' K):@al P _ (Instr.box t x') h ⟨K⟩:=by
 rw[vJ (K:=⟨K⟩)];intro b hb;simp only[cy,aE.qD]at a;cases c:td (eD (bW e x)).length n with
 |false=>rw[c]at a;cases a
 |true=>rw[c,cond_true]at a;cases a;obtain⟨f,g⟩:=Hb S d (t:=t) hb h1.cells;exact k _ _ _ f (.ptr 0 aX.mz) g
def ZG(S:cD P aQ ρ H.get H.an h){main:Bool}{ai:Type}{Sy:Sys ai}{b:aS}{s:ai}{t:ta}(j:fS P t=C o0){x:su}{x':o5}(g:cy call e H (.BU x)=C (v,H'))(h1:bj ρ (bW e x) x'){f:ai->ae->o5->Prop}(k:fQ P aQ ρ H h v H' λv h=>f s h v):@eX P main _ Sy b t x' s h ⟨f⟩:=by
 simp only[cy]at g;split at g
 .rename_i c o r;rw[r]at h1;cases h1 with
  |ptr o l=>
   obtain⟨u,m,i,n,p,d,y,q⟩:=xK S l g;rw[ua (K:=⟨f⟩) (A:=⟨_,o,o0⟩) q,GW (K:=⟨λv h=>f s h v⟩) j]
   match u,m,n,p with
   | [B],[z],.cons a _,_=>
    simp only[W6,at5]at i;obtain⟨rfl,rfl⟩:=i;rw[pG]at d;cases hc:h.cell? ⟨_,o+0,o0⟩with
    |none=>rw[hc]at d;simp[qB]at d
    |some w=>rw[hc]at d;simp only[zQ,qB,W6,List.cons.injEq,and_true]at d;subst d;exact k.same S a
 .cases g
def ZH(S:cD P aQ ρ H.get H.an h){main:Bool}{ai:Type}{Sy:Sys ai}{b:aS}{s:ai}{t:ta}{n:Nat}(g:fS P t=C (C n)){x:su}{x':o5}(d:cy call e H (.BV n x)=C (v,H'))(h1:bj ρ (bW e x) x'){a:ai->ae->o5->Prop}(k:fQ P aQ ρ H h v H' λv h=>a s h v):@eX P main _ Sy b t x' s h ⟨a⟩:=by
 simp only[cy]at d;split at d
 .rename_i c o p;rw[p]at h1;cases h1 with
  |ptr o i=>obtain⟨u,q,f,j,r,l,y,m⟩:=xK S i d;rw[ua (K:=⟨a⟩) (A:=⟨_,o,o0⟩) m,zO (K:=⟨λv h=>a s h v⟩) g,l];simp only[W6,at5]at f;obtain⟨rfl,rfl⟩:=f;exact k.same S (.agg j)
 .cases d
def ZI(S:cD P aQ ρ H.get H.an h){t:ta}{n:Nat}(g:cu P t=C n){x y:su}{x' d:o5}(a:cy call e H (.st n x y)=C (v,H'))(h1:bj ρ (bW e x) x')(f:bj ρ (bW e y) d)(k:fQ P aQ ρ H h v H' K):@al P _ (Instr.storeAt t x' d) h ⟨λ_ h=>K undef h⟩:=by
 simp only[cy]at a;split at a
 .rename_i c o q;rw[q]at h1;cases h1 with
  |ptr o i=>
   cases b:td (eD (bW e y)).length n with
   |false=>rw[b]at a;cases a
   |true=>
    rw[b,cond_true]at a;obtain⟨s,h1,r,j,l,m⟩:=zY S i f.cells a;cases r;rw[xE (K:=⟨λ_ h=>K undef h⟩) g];have p:d.cells.size=n:=by have:=f.cells.length;rw[<- au7,this];exact atP b
    refine⟨by simp[p],m _ (k _ _ _ j bj.undef l)⟩
 .cases a
def ZJ(S:cD P aQ ρ H.get H.an h){x:su}{x':o5}(c:cy call e H (.BW x)=C (v,H'))(h1:bj ρ (bW e x) x')(k:fQ P aQ ρ H h v H' K):@al P _ (vu x') h ⟨λan h=>∃g,an=.value g/\K g h⟩:=by
 simp only[cy]at c;split at c
 .rename_i d;cases c;rw[d]at h1;cases h1 with
  |ptr o i=>exact⟨_,rfl,k.same S (.ptr o i)⟩
 .rename_i d;cases c;rw[d]at h1;cases h1 with
  |func f a b=>exact⟨_,rfl,k.same S (.func f a b)⟩
 .cases c
def OJ(k:E1)(n:Int):wr k n=k.wrap n:=by
 have key:∀(k:E1) (m:Nat),m<128->k.wrap (.ofNat m)=.ofNat m:=λk m f=>by have e:(aww m)=(m:Int):=rfl;rw[e];cases k<;>simp only[aur,auQ,auR,awQ,auH]<;>(try split)<;>simp_all<;>omega
 have g:∀n:Int,-9223372036854775808<=n->n<9223372036854775808->aur .i64 n=n:=λn h1 d=>by simp only[aur,auQ,auR,awQ];split<;>simp_all<;>omega
 have u64:∀n:Int,0<=n->n<18446744073709551616->aur .u64 n=n:=λn h1 d=>by simp only[aur,auQ,auR,auH];simp;omega
 unfold wr;have c:∀a b:Nat,Kf a b=J->a<b:=λa b h=>by have:=at4 h;omega
 cases n with
 |ofNat m=>
  show cond (Kf m 128) (aww m) (match k with|.i64=>cond (Kf m 9223372036854775808) (aww m) (k.wrap (.ofNat m))|.u64=>cond (Kf m 18446744073709551616) (aww m) (k.wrap (.ofNat m))|_=>k.wrap (.ofNat m))=_;cases f:Kf m 128 with
  |true=>exact(key k m (c _ _ f)).symm
  |false=>
   rw[cond_false];cases k
   case i8=>rfl
   case i16=>rfl
   case i32=>rfl
   case u8=>rfl
   case u16=>rfl
   case u32=>rfl
   .show cond (Kf m 9223372036854775808) _ _=_;cases hb:Kf m 9223372036854775808 with
    |true=>have:=c _ _ hb;exact(g (m:Int) U U).symm
    |false=>rw[cond_false]
   .show cond (Kf m 18446744073709551616) _ _=_;cases hb:Kf m 18446744073709551616 with
    |true=>have:=c _ _ hb;exact(u64 (m:Int) U U).symm
    |false=>rw[cond_false]
 |negSucc m=>
  cases k
  case i8=>rfl
  case i16=>rfl
  case i32=>rfl
  case u8=>rfl
  case u16=>rfl
  case u32=>rfl
  case u64=>rfl
  show cond (Kf m 9223372036854775808) _ _=_;cases hb:Kf m 9223372036854775808 with
  |true=>
   have h0:=c _ _ hb;have h1: -9223372036854775808<=azC m:=by rw[axo];omega
   have d:azC m<9223372036854775808:=by rw[axo];omega
   rw[cond_true,g (azC m) h1 d]
  |false=>rw[cond_false]
def pH{k:E1}{n:Int}{f:o5->Option (o5×aE)}{r:o5×aE}(a:pF k n f=C r):f (.int k (k.wrap n))=C r:=by unfold pF at a;rw[Zw,OJ]at a;exact a
def nC{b:Bool}{f:o5->Option (o5×aE)}{r:o5×aE}(a:my b f=C r):f (.bool b)=C r:=by unfold my at a;cases b<;>exact a
def Hc(a b:Int):zL a b=decide (a<=b):=by
 cases a<;>cases b<;>simp only[zL]
 .rename_i a b;rw[avL];simp only[decide_eq_true_eq];exact⟨λh=>azD.2 (at4 h),λh=>aus (azD.1 h)⟩
 .symm;simp only[decide_eq_false_iff_not,avM,axo];omega
 .symm;simp only[decide_eq_true_eq,avM,axo];omega
 .rename_i a b;rw[avL];simp only[decide_eq_true_eq];simp only[axo];exact⟨λh=>by have:=at4 h;omega,λh=>aus U⟩
def Hd(a b:Int):zM a b=decide (a<b):=by unfold zM;rw[Hc];rw[avL];simp only[Bool.not_eq_true',decide_eq_false_iff_not,decide_eq_true_eq];omega
end
section
variable{P:tb}{aQ:Nat}{ρ:aX}{H H':aE}{h:ae}{call:vb->List o5->aE->Option (o5×aE)}{e:cL}{v:o5}{K:o5->ae->Prop}
def He{j k:E1}(h:vC j k=J):j=k:=by cases j<;>cases k<;>first|rfl|cases h
def Co(a b:Int):xC a b=(a==b):=by rw[avL,beq_iff_eq];cases a<;>cases b<;>simp only[xC,dp.beq_iff,avM,axo,false_iff,N2]<;>omega
def OK(a b:Bool):GR a b=(a==b):=by cases a<;>cases b<;>rfl
def OL(k:E1)(a b:Nat)(h:a%2^k.bits=b%2^k.bits):k.wrap a=k.wrap b:=by
 have e:((a:Int)%(2^k.bits:Int))=((b:Int)%(2^k.bits:Int)):=by
  have h1:((2^k.bits:Int))=((2^k.bits:Nat):Int):=Y
  rw[h1,<- aBh,<- aBh,h]
 unfold aur;rw[e]
def ZK{op:BinOp}{t:ta}{x y:su}{k k':E1}{a b:Int}(Q:Unit->ae->Prop):aH P (W2 op t x y (.int k a) (.int k' b)) h Q=Q () h:=by unfold W2;cases op<;>simp[aR]
def ZL(S:cD P aQ ρ H.get H.an h){op:BinOp}{t:ta}{x y:su}{x' n:o5}(c:cy call e H (.bin op .int x y)=C (v,H'))(h1:bj ρ (bW e x) x')(g:bj ρ (bW e y) n)(k:fQ P aQ ρ H h v H' K):@al P _ (bN op t x y x' n) h ⟨K⟩:=by
 simp only[cy,tY]at c;split at c
 .rename_i f a i b o p;rw[o]at h1;rw[p]at g;cases h1;cases g;have d:∀w:o5,aH P (M5 op t (.int f a) (.int i b)) h (λv h=>K v h)=K w h->bj ρ v w->H'=H->@al P _ (bN op t x y (.int f a) (.int i b)) h ⟨K⟩:=λw s q r=>by subst r;simp only[al,bN,aJ,ZK];rw[s];exact k.same S q
  split at c
  .split at c
   .rename_i a b;cases hb:vd b f.bits with
    |false=>rw[hb]at c;cases c
    |true=>
     rw[hb,cond_true]at c;have:=pH c;cases this;refine d _ ?_ (.int _ _) rfl;have l:min b f.bits=b:=azE (at4 hb);have j:¬((b:Int)<0):=U
     simp only[M5,Op.shift,avM,j,if_false,avt,l,aR];have u:((a.mul (Nat.pow 2 b):Nat):Int)=(a:Int)*2^b:=by rw[(atz:a.mul (Nat.pow 2 b)=a*2^b)];simp
     rw[u]
   .cases c
  .split at c
   .rename_i a b;cases hb:vd b f.bits with
    |false=>rw[hb]at c;cases c
    |true=>
     rw[hb,cond_true,jI]at c;cases c;refine d _ ?_ (.int _ _) rfl;have l:min b f.bits=b:=azE (at4 hb);have j:¬((b:Int)<0):=U
     simp only[M5,Op.shift,avM,j,if_false,avt,l,aR];congr 2;have g:((2:Int)^b)=((2^b:Nat):Int):=Y
     rw[g,Int.fdiv_eq_ediv_of_nonneg _ (Int.natCast_nonneg _)];exact(Int.natCast_ediv _ _).symm
   .cases c
  .rename_i bK bR;cases m:vC f i with
   |false=>rw[m]at c;cases c
   |true=>
    rw[m,cond_true]at c;have:=He m;subst this;split at c
    .have:=pH c;cases this;exact d _ (by simp[M5,au0,aR]) (.int _ _) rfl
    .have:=pH c;cases this;exact d _ (by simp[M5,au0,aR]) (.int _ _) rfl
    .have:=pH c;cases this;exact d _ (by simp[M5,au0,aR]) (.int _ _) rfl
    .have:=nC c;cases this;exact d _ (by rw[Co];simp[M5,awV,aR]) (.bool _) rfl
    .have:=nC c;cases this;exact d _ (by rw[Co];simp[bne,M5,awV,aR]) (.bool _) rfl
    .have:=nC c;cases this;exact d _ (by rw[Hd];simp[M5,awV,aR]) (.bool _) rfl
    .have:=nC c;cases this;exact d _ (by rw[Hc];simp[M5,awV,aR]) (.bool _) rfl
    .have:=nC c;cases this;exact d _ (by rw[Hd];simp[M5,awV,aR]) (.bool _) rfl
    .have:=nC c;cases this;exact d _ (by rw[Hc];simp[M5,awV,aR]) (.bool _) rfl
    .split at c
     .rename_i a b;cases hb:td b 0 with
      |true=>rw[hb]at c;cases c
      |false=>
       rw[hb,cond_false,jI]at c;cases c;have h0:¬(b=0):=λh0=>by subst h0;cases hb
       exact d _ (by simp[M5,Op.intDiv,aR,h0];rfl) (.int _ _) rfl
     .cases c
    .split at c
     .rename_i a b;cases hb:td b 0 with
      |true=>rw[hb]at c;cases c
      |false=>
       rw[hb,cond_false]at c;have:=pH c;cases this;have h0:¬(b=0):=λh0=>by subst h0;cases hb
       exact d _ (by simp[M5,Op.intDiv,aR,h0];rfl) (.int _ _) rfl
     .cases c
    .split at c
     .rename_i a b;have:=pH c;cases this;refine d _ ?_ (.int _ _) rfl;simp only[M5,ayM,aR,ne_eq,not_true_eq_false,if_false];congr 2;refine OL f _ _ ?_;simp[BitVec.ofInt_natCast];simp[Nat.and_mod_two_pow]
     .cases c
    .split at c
     .rename_i a b;have:=pH c;cases this;refine d _ ?_ (.int _ _) rfl;simp only[M5,ayM,aR,ne_eq,not_true_eq_false,if_false];congr 2;refine OL f _ _ ?_;simp[BitVec.ofInt_natCast];simp[Nat.or_mod_two_pow]
     .cases c
    .cases c
 .cases c
def vP{t:ta}{x y:o5}{Q:Bool->ae->Prop}:aH P (auz t x y) h Q=aH P (at1 (9999+1) t x y) h Q:=rfl
def OM{t:ta}(c:P.underlying t=C .bool){a b:Bool}{Q:Bool->ae->Prop}:aH P (auz t (.bool a) (.bool b)) h Q=Q (a==b) h:=by rw[vP];generalize 9999=d;rw[at1];simp only[aJ,c0,c];rfl
def ON{t e:ta}(b:P.underlying t=C (.slice e)){a:Option vm}{n c n' bJ:Nat}{Q:Bool->ae->Prop}:aH P (auz t (.slice a n c) (.slice o0 n' bJ)) h Q=Q a.isNone h:=by rw[vP];generalize 9999=d;rw[at1];simp only[aJ,c0,b];cases a<;>rfl
def ZM(S:cD P aQ ρ H.get H.an h){op:BinOp}{t:ta}(d:P.underlying t=C .bool){x y:su}{x' f:o5}(c:cy call e H (.bin op .bool x y)=C (v,H'))(h1:bj ρ (bW e x) x')(g:bj ρ (bW e y) f)(k:fQ P aQ ρ H h v H' K):@al P _ (bN op t x y x' f) h ⟨K⟩:=by
 simp only[cy,tY]at c;split at c
 .rename_i a b i j;rw[i]at h1;rw[j]at g;cases h1;cases g;split at c
  .have:=nC c;cases this;simp only[al,bN,aJ,W2,M5];simp only[aR,OK,OM d]at k ⊢;simp[aR]at k ⊢;exact k.same S (.bool _)
  .have:=nC c;cases this;simp only[al,bN,aJ,W2,M5];simp only[aR,OK,OM d]at k ⊢;simp[aR]at k ⊢;exact k.same S (.bool _)
  .cases c
 .cases c
def Cp:∀(a b:List UInt8),xD a b=(a==b)
 | [],[]=>rfl
 | [],_::_=>rfl
 |_::_,[]=>rfl
 |a::l,b::m=>by
  simp only[xD,List.cons_beq_cons];rw[Cp l m];have:td a.toNat b.toNat=(a==b):=by rw[avL,dp.beq_iff,beq_iff_eq];exact⟨λh=>UInt8.toNat_inj.1 h,λh=>by rw[h]⟩
  rw[this];cases(a==b)<;>rfl
def Cq(a:List UInt8):(⟨⟨a⟩⟩:ByteArray).toList=a:=by
 have f:∀(n i:Nat) (r:List UInt8),a.length- i=n->i<=a.length->azF ⟨⟨a⟩⟩ i r=r.reverse++a.drop i:=by
  intro n
  induction n with
  |zero=>
   intro i r c hi;unfold azF;have:¬i<(⟨⟨a⟩⟩:ByteArray).size:=by show ¬i<a.length;omega
   rw[if_neg this,List.drop_of_length_le U,List.append_nil]
  |succ n d=>
   intro i r c hi;unfold azF;have b:i<a.length:=U
   have:i<(⟨⟨a⟩⟩:ByteArray).size:=b;rw[if_pos this,d (i+1) _ U b];have e:(⟨⟨a⟩⟩:ByteArray).get! i=a[i]:=by simp[ByteArray.get!,b]
   rw[e,atQ b];simp
 unfold ByteArray.toList;rw[f a.length 0 [] U (Nat.zero_le _)];simp
def ZN(S:cD P aQ ρ H.get H.an h){op:BinOp}{t:ta}{x y:su}{x' d:o5}(c:cy call e H (.bin op .string x y)=C (v,H'))(h1:bj ρ (bW e x) x')(f:bj ρ (bW e y) d)(k:fQ P aQ ρ H h v H' K):@al P _ (bN op t x y x' d) h ⟨K⟩:=by
 simp only[cy,tY]at c;split at c
 .rename_i a b g i;rw[g]at h1;rw[i]at f;cases h1;cases f;split at c
  .have:=nC c;cases this;simp only[al,bN,aJ,W2,M5,axO,Cq];simp[aR,Cp]at k ⊢;exact k.same S (.bool _)
  .have:=nC c;cases this;simp only[al,bN,aJ,W2,M5,axO,Cq];simp[aR,Cp]at k ⊢;exact k.same S (.bool _)
  .cases c
 .cases c
def ZO(S:cD P aQ ρ H.get H.an h){op:BinOp}{t r:ta}(i:P.underlying t=C (.slice r)){x y:su}{x' f:o5}(b:cy call e H (.bin op .slice x y)=C (v,H'))(h1:bj ρ (bW e x) x')(l:bj ρ (bW e y) f)(k:fQ P aQ ρ H h v H' K):@al P _ (bN op t x y x' f) h ⟨K⟩:=by
 simp only[cy,tY]at b;split at b
 .rename_i a n c s bJ p q;rw[p]at h1;rw[q]at l;have key:∀(g:Option vm) (m d:Nat),x'=.slice g m d->g.isNone=a.isNone->f=.slice o0 s bJ->@al P _ (bN op t x y x' f) h ⟨K⟩:=by
   rintro g m d rfl j rfl;split at b
   .have:=nC b;cases this;simp only[al,bN,aJ,W2,M5];simp only[aR,ON i];simp[aR];rw[<- j]at k;first|exact k.same S (.bool _)|(simp at k;exact k.same S (.bool _))
   .have:=nC b;cases this;simp only[al,bN,aJ,W2,M5];simp only[aR,ON i];simp[aR];rw[<- j]at k;first|exact k.same S (.bool _)|(simp at k;exact k.same S (.bool _))
   .cases b
  cases l;cases h1 with
  |uh n c=>exact key o0 n c rfl rfl rfl
  |sl o n m u=>exact key _ n _ rfl rfl rfl
 .cases b
def ZP(S:cD P aQ ρ H.get H.an h){op:UnOp}{x:su}{x':o5}(a:cy call e H (.un op x)=C (v,H'))(h1:bj ρ (bW e x) x')(k:fQ P aQ ρ H h v H' K):@al P _ (Op.unary op x') h ⟨K⟩:=by
 simp only[cy]at a;split at a
 .rename_i b;cases a;rw[b]at h1;cases h1;exact k.same S (.bool _)
 .rename_i b;cases a;rw[b]at h1;cases h1;exact k.same S (.bool _)
 .rename_i c n b;have:=pH a;cases this;rw[b]at h1;cases h1;simp only[al,Op.unary,au0,aR];exact k.same S (.int _ _)
 .cases a
def ZQ(S:cD P aQ ρ H.get H.an h){s t:ta}{j kk:E1}(hs:P.underlying s=C (.int j))(b:P.underlying t=C (.int kk)){x:su}{x':o5}(a:cy call e H (.conv kk x)=C (v,H'))(h1:bj ρ (bW e x) x')(k:fQ P aQ ρ H h v H' K):@al P _ (convert s t x') h ⟨K⟩:=by
 simp only[cy]at a;split at a
 .rename_i k0 n c;have:=pH a;cases this;rw[c]at h1;cases h1;simp only[al,convert,aJ,c0,hs,b,Conv.intToInt,aR];exact k.same S (.int _ _)
 .cases a
def ZR{kk:E1}{x:su}{x':o5}(a:cy call e H (.conv kk x)=C (v,H'))(h1:bj ρ (bW e x) x'):∃k n,x'=.int k n:=by
 simp only[cy]at a;split at a
 .rename_i k0 n b;rw[b]at h1;cases h1;exact⟨_,_,rfl⟩
 .cases a
def ZS(S:cD P aQ ρ H.get H.an h){t:ta}{d:TypeDesc}(b:P.underlying t=C d)(hd:∀ms,d≠.interface ms){x:su}{x':o5}(a:cy call e H (.BX t x)=C (v,H'))(h1:bj ρ (bW e x) x')(k:fQ P aQ ρ H h v H' K):@al P _ (auW t x') h ⟨K⟩:=by
 simp only[cy,W6,at5]at a;obtain⟨rfl,rfl⟩:=a;simp only[al,auW,aJ,c0,b];have:=k.same S (.iface t h1);cases d<;>first|exact this|exact absurd rfl (hd _)
def ZT(S:cD P aQ ρ H.get H.an h)(c:aQ<=H.an){t:ta}(a:cy call e H .mkMap=C (v,H'))(k:fQ P aQ ρ H h v H' K):@al P _ (axk t o0) h ⟨K⟩:=by
 simp only[cy,aE.qD,W6,at5]at a;obtain⟨rfl,rfl⟩:=a;simp only[al,axk,aJ,qo,aR];intro b hb;obtain⟨d,f⟩:=Cn S (kk:=0) (x:=.mp J [] 0) (o:=⟨.map #[] 0,J⟩) c hb ⟨_,J,rfl,λ_=>rfl,trivial⟩;exact k _ _ _ d (.map aX.mz) f
def ZU(S:cD P aQ ρ H.get H.an h){x:su}{i:Nat}{x':o5}(a:cy call e H (.ext x i)=C (v,H'))(h1:bj ρ (bW e x) x')(k:fQ P aQ ρ H h v H' K):@al P _ (avo x' i) h ⟨K⟩:=by
 simp only[cy]at a;split at a
 .rename_i l f;rw[f]at h1;rw[rH]at a;cases h1 with
  |tuple b=>
   split at a
   .rename_i w g;cases a;obtain⟨w',c,d⟩:=b.get g;simp only[al,avo,au1,c,aR];exact k.same S d
   .cases a
 .cases a
def ZV(S:cD P aQ ρ H.get H.an h){t ty f:ta}(d:P.underlying t=C (.slice f)){x:su}{x':o5}(b:cy call e H (.Ca x)=C (v,H'))(h1:bj ρ (bW e x) x')(k:fQ P aQ ρ H h v H' K):@al P _ (Builtin.len_ #[t] ty #[x']) h ⟨K⟩:=by
 simp only[cy]at b;split at b
 .rename_i a n c g;rw[jI]at b;cases b;rw[g]at h1;cases h1 with
  |uh n c=>rw[uf (K:=⟨K⟩) d];exact k.same S (.int _ _)
  |sl o n m i=>rw[uf (K:=⟨K⟩) d];exact k.same S (.int _ _)
 .cases b
def ZW(S:cD P aQ ρ H.get H.an h){t ty:ta}(b:P.underlying t=C .string){x:su}{x':o5}(a:cy call e H (.Cb x)=C (v,H'))(h1:bj ρ (bW e x) x')(k:fQ P aQ ρ H h v H' K):@al P _ (Builtin.len_ #[t] ty #[x']) h ⟨K⟩:=by
 simp only[cy]at a;split at a
 .rename_i s c;rw[jI]at a;cases a;rw[c]at h1;cases h1;rw[Oy (K:=⟨K⟩) b];exact k.same S (.int _ _)
 .cases a
end
section
variable{P:tb}{aQ:Nat}{ρ:aX}{H H':aE}{h:ae}{call:vb->List o5->aE->Option (o5×aE)}{e:cL}{v:o5}{K:o5->ae->Prop}
def ZX(a:Nat):∀(vs:List o5) (j:Nat) (l:List o5),a+j+vs.length<=l.length->(vs.zipIdx j).foldl (λ(cs:Array o5) (c,i)=>cs.setIfInBounds (a+i) c) ⟨l⟩=⟨ib (a+j) vs l⟩:=by
 intro vs
 induction vs with
 |nil=>intro j l _;simp[xH]
 |cons v vs b=>
  intro j l d;simp only[RF]at d;rw[List.zipIdx_cons,List.foldl_cons];have:(⟨l⟩:Array o5).setIfInBounds (a+j) v=⟨l.set (a+j) v⟩:=Y
  simp only[this];rw[b (j+1) _ atB,(U:a+(j+1)=(a+j)+1),OB U]
def ZY(a:Nat)(vs:Array o5)(l:List o5)(b:a+vs.size<=l.length):vs.zipIdx.foldl (λ(cs:Array o5) (c,i)=>cs.setIfInBounds (a+i) c) ⟨l⟩=⟨ib a vs.toList l⟩:=by have:=ZX a vs.toList 0 l (by simpa using b);rw[asg]at this;rw[<- this,<- Array.foldl_toList,Array.toList_zipIdx]
def zZ(a:Nat->Option (Nat×Nat)):List (Nat×su)->List (Nat×Nat×su)->Prop
 | [],[]=>True
 | (i,x)::bc,(o,n,y)::l=>a i=C (o,n)/\x=y/\1<=n/\zZ a bc l
 |_,_=>False
def Hf{α:Type}{e':su->o5}{q:Nat->Option (Nat×Nat)}{k:List o5->Option α}{r:α}:∀(bc:List (Nat×su)) (l:List (Nat×Nat×su)) (cs b:List o5),zZ q bc l->(∀x∈l.map (·.2.2),bj ρ (bW e x) (e' x))->cT ρ cs b->vE e cs l k=C r->
  ∃c bJ,k c=C r/\cT ρ c bJ/\c.length=cs.length/\ayO q ⟨b⟩ (bc.map λp=>(p.1,e' p.2))=C ⟨bJ⟩:=by
 intro bc
 induction bc with
 |nil=>
  intro l cs b g _ d a;cases l with
  |nil=>exact⟨cs,b,a,d,rfl,rfl⟩
  |cons _ _=>exact g.elim
 |cons p bc t=>
  intro l cs b g s d a;obtain⟨i,x⟩:=p
  match l,g with
  | (o,n,y)::l,⟨h1,E,I,F⟩=>
   subst E;have u:=s x Y;simp only[vE]at a;cases h:td (eD (bW e x)).length n with
   |false=>rw[h]at a;cases a
   |true=>
    rw[h,cond_true]at a;have f:=atP h;obtain⟨hb,a⟩:=xI _ _ _ _ _ a;have hc:=u.cells;have v:=hc.length;have j:(e' x).cells.size=n:=by rw[<- au7,v,f]
    have hb:o+n<=cs.length:=by
     rcases hb with hb|hb
     .rw[hb]at f;simp at f;omega
     .rw[f]at hb;exact hb
    obtain⟨c,bJ,G,w,A,B⟩:=t l _ (ib o (e' x).cells.toList b) F (λz m=>s z (by simp at m ⊢;exact .inr m)) (d.ib hc o) a;refine⟨c,bJ,G,w,?_,?_⟩
    .rw[A,Oz (by rw[f];exact hb)]
    .have D:o+(e' x).cells.size<=b.length:=by rw[j,d.length];exact hb
     have H:=ZY o _ b D;simp only[atS,ayO,h1];rw[if_neg (by rw[j];simp;rw[d.length];exact hb)];rw[H];exact B
def ZZ(fs:List Field)(a:(fs.all λf=>(cu P f.type).isSome)=J)(Q:List (Nat×Nat)->ae->Prop):aH P (fs.mapM (λf=>do pure (f.offset,<- sizeOf f.type)):Sem (List (Nat×Nat))) h Q=Q (fs.map λf=>(f.offset,(cu P f.type).getD 0)) h:=by
 induction fs generalizing Q with
 |nil=>simp[aR]
 |cons f fs b=>simp only[List.all_cons,vh]at a;obtain⟨n,c⟩:=aud.1 a.1;simp only[List.mapM_cons,aJ,gD,c,aR,b a.2,atS,Option.getD_some]
def OO{t:ta}{fs:Array Field}(c:P.underlying t=C (.struct fs))(b:Nat->Option (Nat×Nat))(d:∀i f n,fs[i]? =C f->cu P f.type=C n->b i=C (f.offset,n)):∀(bc:List (Nat×su)) (l:List (Nat×Nat×su)),sQ P t bc=C l->zZ b bc l
 | [],l,a=>by simp[sQ]at a;subst a;trivial
 | (i,x)::bc,l,a=>by
  simp only[sQ]at a;split at a
  .rename_i o n r h1 g;cases a;refine⟨?_,rfl,U,OO c b d bc r g⟩;simp only[G8,c]at h1;split at h1
   .rename_i f e;split at h1
    .rename_i m h;cases h1;exact d i f _ e h
    .cases h1
   .cases h1
  .cases a
def OP{t d:ta}{m:Nat}(c:P.underlying t=C (.array m d)){b:Nat}(hs:cu P d=C b):∀(bc:List (Nat×su)) (l:List (Nat×Nat×su)),sQ P t bc=C l->zZ (λi=>C (i*b,b)) bc l
 | [],l,a=>by simp[sQ]at a;subst a;trivial
 | (i,x)::bc,l,a=>by
  simp only[sQ]at a;split at a
  .rename_i o n r h1 e;cases a;refine⟨?_,rfl,U,OP c hs bc r e⟩;simp only[G8,c,hs]at h1;exact h1
  .cases a
def OQ{a:Nat}(hs:1<=a):∀(bc:List (Nat×su)),zZ (λi=>C (i*a,a)) bc (zV a bc)
 | []=>trivial
 | (i,x)::bc=>⟨rfl,rfl,hs,OQ hs bc⟩
def Z0(S:cD P aQ ρ H.get H.an h){t:ta}{bc:Array (Nat×su)}{e':su->o5}{z:o5}{l:List (Nat×Nat×su)}(A:fw P t=C z)(s:sQ P t bc.toList=C l)(a:Ck P t=J)(B:lC (eD z)=J)
  (o:cy call e H (.build (eD z) l)=C (v,H')) (w:∀x∈l.map (·.2.2),bj ρ (bW e x) (e' x)) (k:fQ P aQ ρ H h v H' K):
  @al P _ (atW t ((bc.toList.map λp=>(p.1,e' p.2)).toArray)) h ⟨K⟩:=by
 simp only[cy]at o;have u:cT ρ (eD z) z.cells.toList:=by rw[<- sP];exact vO B
 simp only[al,atW,aJ,kH,A,c0];unfold Ck at a;split at a
 .rename_i q b;simp only[b,aJ,Array.mapM_eq_mapM_toList,Gy];rw[ZZ q.toList a];obtain⟨c,bJ,r,d,_,g⟩:=Hf (e':=e') bc.toList l (eD z) z.cells.toList (OO b (λi=>((q.toList.map λf=>(f.offset,(cu P f.type).getD 0)).toArray)[i]?) (λi f n D E=>by simp[D,E]) _ _ s) w u o;cases r;have j:ayO (λi=>((q.toList.map λf=>(f.offset,(cu P f.type).getD 0)).toArray)[i]?) z.cells (bc.toList.map λp=>(p.1,e' p.2))=C ⟨bJ⟩:=g;rw[j];simp only[aR];exact k.same S (.agg d)
 .rename_i m F b;obtain⟨y,hs⟩:=aud.1 a;simp only[b,aJ,gD,hs];obtain⟨c,bJ,r,d,_,g⟩:=Hf (e':=e') bc.toList l (eD z) z.cells.toList (OP b hs _ _ s) w u o;cases r;have j:ayO (λi=>C (i*y,y)) z.cells (bc.toList.map λp=>(p.1,e' p.2))=C ⟨bJ⟩:=g;rw[j];simp only[aR];exact k.same S (.agg d)
 .cases a
def Cr{z a:List o5}(b:cT ρ z a):∀n,cT ρ (lW z n) (lW a n)
 | 0=>.nil
 |n+1=>b.append (Cr b n)
def Cs(z:List o5):∀n,(lW z n).length=n*z.length
 | 0=>by simp[lW]
 |n+1=>by simp[lW,Cs z n,awy,Nat.add_comm]
def OR(z:List o5):∀(n i:Nat),i<n*z.length->(lW z n)[i]? =z[i%z.length]?
 | 0,i,hi=>by simp at hi
 |n+1,i,hi=>by
  have c:0<z.length:=by
   rcases Nat.eq_zero_or_pos z.length with h0|h0
   .rw[h0]at hi;simp at hi
   .exact h0
  simp only[lW];by_cases a:i<z.length
  .rw[List.getElem?_append_left a,Nat.mod_eq_of_lt a]
  .have b:i%z.length=(i- z.length)%z.length:=Nat.mod_eq_sub_mod U;have d:(n+1)*z.length=n*z.length+z.length:=awy n _;rw[List.getElem?_append_right U,OR z n (i- z.length) U,b]
def Hg{z:Array o5}{n m:Nat}(a:z.size=m)(h1:1<=m):(avw (n*m)).map (λi=>z[i%z.size]!)=⟨lW z.toList n⟩:=by
 apply Array.ext_getElem?;intro i;simp only[Array.getElem?_map,au1];by_cases hi:i<n*m
 .rw[aBl,if_pos hi];rw[OR z.toList n i (by simpa[a]using hi)];have:i%z.size<z.size:=Nat.mod_lt _ U;simp[this]
 .rw[aBl,if_neg hi,au6]
  .rfl
  .rw[Cs];simp[a];omega
def Z1(S:cD P aQ ρ H.get H.an h)(r:aQ<=H.an){t d n m:Nat}{bc:Array (Nat×su)}{e':su->o5}{z:o5}(s:P.underlying t=C (.slice d))(u:fw P d=C z)(hs:cu P d=C m)
  (f:(lC (eD z)&&td (eD z).length m&&vd 1 m&&vd (n*m) 10000)=J) (l:cy call e H (.buildSlice d m n (eD z) (zV m bc.toList))=C (v,H')) (G:∀x∈(zV m bc.toList).map (·.2.2),bj ρ (bW e x) (e' x)) (k:fQ P aQ ρ H h v H' K):
  @al P _ (atX t n ((bc.toList.map λp=>(p.1,e' p.2)).toArray)) h ⟨K⟩:=by
 simp only[vh]at f;obtain⟨⟨⟨w,I⟩,L⟩,M⟩:=f;have N:=atP I;have h1:=at4 L;have W:=at4 M;have y:z.cells.size=m:=by rw[<- au7,<- sP];exact N
 have A:cT ρ (eD z) z.cells.toList:=by rw[<- sP];exact vO w
 simp only[cy]at l;obtain⟨c,bJ,o,B,_,g⟩:=Hf (e':=e') bc.toList _ _ _ (OQ h1 _) G (Cr A n) l;simp only[aE.qD,W6,at5]at o;obtain⟨rfl,rfl⟩:=o;simp only[al,atX,aJ,c0,s,gD,hs];rw[if_neg U];have q:aH P (newRow d ⟨bJ⟩) h (λa h=>K (.slice (C a) n n) h):=by
  simp only[newRow,aJ,qo,aR];intro b hb;obtain⟨Q,R⟩:=Hb S r (t:=d) hb B;have D:jr 0 n=n:=by
   have:lx n=q9:=by
    unfold lx;cases hb:vd 2305843009213693952 n with
    |false=>rfl
    |true=>have:=at4 hb;have:n<=n*m:=Nat.le_mul_of_pos_right n h1;omega
   simp[jr,this]
  have j:=bj.sl (ρ:=ρ.ext H.an b 0) 0 n n aX.mz;rw[D]at j;exact k _ _ _ Q j R
 by_cases h0:n*m=0
 .have E:n=0:=by rcases Nat.mul_eq_zero.1 h0 with h|h<;>omega
  have F:(avw (n*m)).map (λi=>(#[]:Array o5)[i%(#[]:Array o5).size]!)=⟨lW z.cells.toList n⟩:=by subst E;simp[lW]
  rw[if_pos h0];simp only[aJ,aR];rw[F,g];simp only[aJ,aR];exact q
 .rw[if_neg h0];simp only[aJ,kH,u,aR];rw[Hg y h1,g];simp only[aJ,aR];exact q
end
section
variable{P:tb}{aQ:Nat}{ρ:aX}{H H':aE}{h:ae}{call:vb->List o5->aE->Option (o5×aE)}{e:cL}{v:o5}{K:o5->ae->Prop}
def Z2(S:cD P aQ ρ H.get H.an h){t m i:Nat}{fs:Array Field}{f:Field}(b:P.underlying t=C (.struct fs))(d:fs[i]? =C f)(hs:cu P f.type=C (m+1)){x:su}{x':o5}(a:cy call e H (.BZ f.offset x)=C (v,H'))(h1:bj ρ (bW e x) x')(k:fQ P aQ ρ H h v H' K):@al P _ (Instr.fieldAt t x' i) h ⟨K⟩:=by
 simp only[cy]at a;split at a
 .rename_i c o j;rw[j]at h1;rw[jI]at a;cases a;cases h1 with
  |ptr o g=>rw[m1 (K:=⟨K⟩) b d rfl hs,kU];exact k.same S (.ptr _ g)
 .cases a
def rJ{a b:Nat}(h:Kf a b=J):a<b:=by have:=at4 h;omega
def Z3(S:cD P aQ ρ H.get H.an h){t b d:Nat}(j:P.underlying t=C (.slice b))(hs:cu P b=C d){x y:su}{x' f:o5}(a:cy call e H (.idx d x y)=C (v,H'))(h1:bj ρ (bW e x) x')(g:bj ρ (bW e y) f)(k:fQ P aQ ρ H h v H' K):@al P _ (auX t x' f) h ⟨K⟩:=by
 simp only[cy]at a;split at a
 .rename_i c o n r s i l p;rw[l]at h1;rw[p]at g;cases hb:Kf i n with
  |false=>rw[hb]at a;cases a
  |true=>
   rw[hb,cond_true,jI]at a;cases a;cases g;cases h1 with
   |sl o n m q=>
    rw[Ch (K:=⟨K⟩) j hs];have:=rJ hb;refine⟨?_,?_⟩
    .simp only[avM,vh,decide_eq_true_eq];omega
    .simp only[avM,avt];exact k.same S (.ptr _ q)
 .cases a
def Z4(S:cD P aQ ρ H.get H.an h){t b d n:Nat}(j:P.underlying t=C (.array n b))(hs:cu P b=C d){x y:su}{x' f:o5}(a:cy call e H (.B7 n d x y)=C (v,H'))(h1:bj ρ (bW e x) x')(g:bj ρ (bW e y) f)(k:fQ P aQ ρ H h v H' K):@al P _ (auX t x' f) h ⟨K⟩:=by
 simp only[cy]at a;split at a
 .rename_i c o q i l m;rw[l]at h1;rw[m]at g;cases hb:Kf i n with
  |false=>rw[hb]at a;cases a
  |true=>
   rw[hb,cond_true,jI]at a;cases a;cases g;cases h1 with
   |ptr o p=>have:=rJ hb;have hi:(0:Int)<=(i:Int)/\(i:Int)<(n:Int):=⟨U,U⟩;simp only[al,auX,avr,avI,aJ,aR,c0,j,Gz,gD,hs,kU,avM,hi,and_self,if_true,avt];exact k.same S (.ptr _ p)
 .cases a
def z8{t:ta}{cs:List o5}{o:Nat}(Q:o5->ae->Prop)(A:Option Nat)(a:fS P t=C A):aH P (part t ⟨cs⟩ o) h Q=match A with|some n=>Q (.agg ⟨(cs.drop o).take n⟩) h|none=>match cs[o]? with|some v=>Q v h|none=>False:=by
 simp only[part,aJ,Oq];unfold fS at a;cases b:P.underlying t with
 |none=>rw[b]at a;cases a
 |some d=>
  rw[b]at a;cases d<;>simp only at a ⊢
  case array n c=>
   split at a
   .rename_i i hi;cases a;simp only[if_true,aJ,gD,cu,hi,avb,aR];simp
   .cases a
  case struct e=>
   split at a
   .rename_i i hi;cases a;simp only[if_true,aJ,gD,cu,hi,avb,aR];simp
   .cases a
  all_goals
   cases a;simp only[N2,if_false,au1];cases cs[o]? <;>rfl
def OS(S:cD P aQ ρ H.get H.an h){t c b n:Nat}{ag:Bool}(j:P.underlying t=C (.array n c))(hs:cu P c=C b)(l:fS P c=C (if ag then C b else o0)){x y:su}{x' f:o5}(a:cy call e H (.zK n b ag x y)=C (v,H'))(h1:bj ρ (bW e x) x')(g:bj ρ (bW e y) f)(k:fQ P aQ ρ H h v H' K):@al P _ (auG t x' f) h ⟨K⟩:=by
 simp only[cy]at a;split at a
 .rename_i cs u i m o;rw[m]at h1;rw[o]at g;cases hb:Kf i n with
  |false=>rw[hb]at a;cases a
  |true=>
   rw[hb,cond_true]at a;cases g;cases h1 with
   |agg d=>
    have:=rJ hb;have hi:(0:Int)<=(i:Int)/\(i:Int)<(n:Int):=⟨U,U⟩;simp only[al,auG,avr,aJ,aR,c0,j,avM,hi,and_self,if_true,gD,hs,avt];rw[z8 _ _ l];unfold GU at a;cases ag with
    |true=>simp only at a ⊢;rw[vL]at a;obtain⟨z,r⟩:=xG _ _ _ _ a;cases r;exact k.same S (.agg ((d.drop (i*b)).take b))
    |false=>
     dsimp only at a;rw[rH]at a;split at a
     .rename_i w s;cases a;obtain⟨w',p,q⟩:=d.get s;simp only[p];exact k.same S q
     .cases a
 .cases a
def Z5(S:cD P aQ ρ H.get H.an h){t:Nat}(g:P.underlying t=C .string){x y:su}{x' d:o5}(a:cy call e H (.B8 x y)=C (v,H'))(h1:bj ρ (bW e x) x')(f:bj ρ (bW e y) d)(k:fQ P aQ ρ H h v H' K):@al P _ (auG t x' d) h ⟨K⟩:=by
 simp only[cy]at a;split at a
 .rename_i s n i j l;rw[j]at h1;rw[l]at f;rw[rH]at a;split at a
  .rename_i w b;rw[jI]at a;cases a;cases f;cases h1;have hi:(0:Int)<=(i:Int):=U
   have m:(⟨⟨s⟩⟩:ByteArray)[i]? =C w:=by
    have c:i<s.length:=by
     rcases Nat.lt_or_ge i s.length with h|h
     .exact h
     .rw[au6 h]at b;cases b
    rw[List.getElem?_eq_getElem c]at b;have:i<(⟨⟨s⟩⟩:ByteArray).size:=c;rw[getElem?_pos (⟨⟨s⟩⟩:ByteArray) i this];exact b
   simp only[al,auG,avr,aJ,aR,c0,g,avM,hi,if_true,avt,m];exact k.same S (.int _ _)
  .cases a
 .cases a
def Z6(S:cD P aQ ρ H.get H.an h){dD:Array ta}{ty:ta}{x y:su}{x' f:o5}(c:cy call e H (.max2 x y)=C (v,H'))(h1:bj ρ (bW e x) x')(g:bj ρ (bW e y) f)(k:fQ P aQ ρ H h v H' K):@al P _ (Builtin.max_ dD ty #[x',f]) h ⟨K⟩:=by
 simp only[cy]at c;split at c
 .rename_i m a l b i j;rw[i]at h1;rw[j]at g;cases h1;cases g;simp only[al,Builtin.max_,List.foldlM_cons,List.foldlM_nil,Builtin.max2,aJ,aR];rw[Hd]at c;by_cases d:a<b
  .simp only[d,decide_true,cond_true]at c;cases c;have:b>a:=d;simp only[this,if_true];exact k.same S (.int _ _)
  .simp only[d,decide_false,cond_false]at c;cases c;have:¬b>a:=d;simp only[this,if_false];exact k.same S (.int _ _)
 .cases c
def nE(ρ:aX)(e:cL)(e':su->o5):Option su->Prop
 |none=>True
 |some x=>bj ρ (bW e x) (e' x)
def qG{e':su->o5}{d n:Nat}{o:Option su}(a:nE ρ e e' o)(hb:kI e d o=C n):(o=o0/\n=d)\/∃k x,o=C x/\e' x=.int k n:=by
 cases o with
 |none=>simp only[kI,W6]at hb;exact .inl ⟨rfl,hb.symm⟩
 |some x=>
  simp only[kI]at hb;split at hb
  .rename_i c m f;cases hb;rw[nE,f]at a;generalize b:e' x=z at a;cases a;exact .inr ⟨c,x,rfl,b⟩
  .cases hb
def rK{k:E1}{n y:Nat}{c:BoundsCode}(a:n<=y)(Q:Nat->ae->Prop):aH P (aBo (.int k n) y c) h Q=Q n h:=by have:(0:Int)<=(n:Int)/\(n:Int)<=(y:Int):=⟨U,U⟩;simp only[aBo,avr,aJ,aR,this,and_self,if_true,avt]
def Ct{isS:Bool}{len cap l hh:Nat}{b ov:Option o5}(e:(∃k,b=C (.int k hh)/\hh<=cap)\/(b=o0/\hh=len))(d:(∃k,ov=C (.int k l)/\l<=hh)\/(ov=o0/\l=0))(Q:Nat×Nat×Nat->ae->Prop)(a:Q (l,hh,cap) h):aH P (awz isS len cap ov b o0) h Q:=by
 unfold awz;rw[aJ,aR];rcases e with⟨k,rfl,h1⟩|⟨rfl,rfl⟩
 .rw[aJ];refine(rK h1 _).mpr ?_;rcases d with⟨k',rfl,c⟩|⟨rfl,rfl⟩
  .rw[aJ];exact(rK c _).mpr a
  .exact a
 .rw[aJ,aR];rcases d with⟨k',rfl,c⟩|⟨rfl,rfl⟩
  .rw[aJ];exact(rK c _).mpr a
  .exact a
def Z7{isS:Bool}{len cap l hh m:Nat}{k k':E1}{ov:Option o5}(d:m<=cap)(a:hh<=m)(c:(∃k,ov=C (.int k l)/\l<=hh)\/(ov=o0/\l=0))(Q:Nat×Nat×Nat->ae->Prop)(b:Q (l,hh,m) h):aH P (awz isS len cap ov (C (.int k hh)) (C (.int k' m))) h Q:=by
 unfold awz;rw[aJ];refine(rK d _).mpr ?_;rw[aJ];refine(rK a _).mpr ?_;rcases c with⟨k',rfl,a⟩|⟨rfl,rfl⟩
 .rw[aJ];exact(rK a _).mpr b
 .exact b
def Hh{e':su->o5}{isS:Bool}{len cap l hh m:Nat}{lo hi aZ:Option su}(s:nE ρ e e' aZ)(t:nE ρ e e' hi)(u:nE ρ e e' lo)(i:(aZ=o0/\m=cap)\/∃k x,aZ=C x/\e' x=.int k m)(c:(hi=o0/\hh=len)\/∃k x,hi=C x/\e' x=.int k hh)(bl:(lo=o0/\l=0)\/∃k x,lo=C x/\e' x=.int k l)
  (hs:hi.isSome=J\/aZ.isNone=J) (h1:l<=hh) (g:hi=o0\/hh<=m) (p:aZ=o0\/m<=cap) (Q:Nat×Nat×Nat->ae->Prop) (d:Q (l,hh,m) h):
  aH P (awz isS len cap (lo.map e') (hi.map e') (aZ.map e')) h Q:=by
 have f:(∃k,lo.map e'=C (.int k l)/\l<=hh)\/(lo.map e'=o0/\l=0):=by
  rcases bl with⟨rfl,rfl⟩|⟨j,w,rfl,q⟩
  .exact .inr ⟨rfl,rfl⟩
  .exact .inl ⟨j,congrArg C q,h1⟩
 rcases i with⟨rfl,rfl⟩|⟨n,v,rfl,r⟩
 .refine Ct ?_ f Q d;rcases c with⟨rfl,rfl⟩|⟨a,o,rfl,b⟩
  .exact .inr ⟨rfl,rfl⟩
  .exact .inl ⟨a,congrArg C b,g.resolve_left Y⟩
 .rcases c with⟨rfl,rfl⟩|⟨a,o,rfl,b⟩
  .exact absurd hs Y
  .have:=Z7 (P:=P) (isS:=isS) (len:=len) (k:=a) (k':=n) (p.resolve_left Y) (g.resolve_left Y) f Q d;rw[<- b,<- r]at this;exact this
def Z8{e':su->o5}{o:Option su}(a:∀x∈o.toList,bj ρ (bW e x) (e' x)):nE ρ e e' o:=by
 cases o with
 |none=>trivial
 |some x=>exact a x Y
def Hi{c:Nat}:lx c=J↔2305843009213693952<=c:=⟨λh=>at4 h,λh=>aus h⟩
def xM{c:Nat}:lx c=q9↔c<2305843009213693952:=by rw[<- Bool.not_eq_true,Hi];omega
def xN{k c:Nat}(h:lx c=q9):jr k c=c:=by simp[jr,h]
def Aa{k c:Nat}(h:lx c=J):jr k c=k- (df- c):=by simp[jr,h]
def fZ{a b:Nat}(h:vd a b=J):a<=b:=at4 h
def beq_eq{a b:Nat}(h:td a b=J):a=b:=atP h
def Z9(S:cD P aQ ρ H.get H.an h){t:Nat}{e':su->o5}(c:P.underlying t=C .string){x:su}{lo hi:Option su}{x':o5}(a:cy call e H (.rG x lo hi)=C (v,H'))(h1:bj ρ (bW e x) x')(d:nE ρ e e' lo)(f:nE ρ e e' hi)(k:fQ P aQ ρ H h v H' K):@al P _ (K0 t x' (lo.map e') (hi.map e') o0) h ⟨K⟩:=by
 simp only[cy]at a;split at a
 .rename_i s j;rw[j]at h1;split at a
  .rename_i b g;split at a
   .rename_i l i;cases hc:(vd b s.length&&vd l b)with
    |false=>rw[hc]at a;cases a
    |true=>
     rw[hc,cond_true]at a;simp only[vh]at hc;have c1:=fZ hc.1;have c2:=fZ hc.2;rw[vL]at a;obtain⟨_,a⟩:=xG _ _ _ _ a;cases a;cases h1;simp only[al,K0,aJ,c0,c];simp only[awX,aJ,c0,c];rw[if_neg Y,aJ];refine Hh (e:=e) (aZ:=o0) trivial f d (.inl ⟨rfl,rfl⟩) (qG f g) (qG d i) (.inr rfl) c2 ?_ (.inl rfl) _ ?_
     .exact .inr c1
     .have:(⟨⟨s⟩⟩:ByteArray).extract l b=⟨⟨(s.drop l).take (b- l)⟩⟩:=by apply ByteArray.ext;rw[ByteArray.data_extract];apply Array.toList_inj.1;simp
      show K (.string ((⟨⟨s⟩⟩:ByteArray).extract l b)) h;rw[this];exact k.same S (.string _)
   .cases a
  .cases a
 .cases a
def OT(S:cD P aQ ρ H.get H.an h){c b kk o d l hh m dG:Nat}(f:ρ c=C (b,kk))(a:(jW (hh- l) λn=>jW (m- l) λg=>cond (td m l) (C (Value.slice (C ⟨c,o,o0⟩) n g,H)) (jW (o+l*d) λo=>C (Value.slice (C ⟨c,o,o0⟩) n g,H)))=C (v,H'))
  (i:jr kk (m- l)=dG- l) (q:m=l->dG=l) (j:m≠l->dG=l->l=0) (k:fQ P aQ ρ H h v H' K):K (.slice (C (if dG=l then⟨b,o,o0⟩else(⟨b,o,o0⟩:vm).add (l*d))) (hh- l) (dG- l)) h:=by
 simp only[jI]at a;cases hb:td m l with
 |true=>rw[hb,cond_true]at a;cases a;rw[if_pos (q (beq_eq hb)),<- i];exact k.same S (.sl _ _ _ f)
 |false=>
  rw[hb,cond_false]at a;cases a;have p:m≠l:=λe=>by subst e;simp at hb
  have:(if dG=l then(⟨b,o,o0⟩:vm)else(⟨b,o,o0⟩:vm).add (l*d))=⟨b,o+l*d,o0⟩:=by
   split
   .rename_i e;rw[j p e];simp
   .exact kU
  rw[this,<- i];exact k.same S (.sl _ _ _ f)
def aaa(S:cD P aQ ρ H.get H.an h){t n j p:Nat}{e':su->o5}(r:P.underlying t=C (.array n j))(hs:cu P j=C p){x:su}{lo hi aZ:Option su}{x':o5}(s:(hi.isSome||aZ.isNone)=J)(u:vd n 1000000=J)(d:cy call e H (.BY n p x lo hi aZ)=C (v,H'))(h1:bj ρ (bW e x) x')(f:nE ρ e e' lo)(g:nE ρ e e' hi)(i:nE ρ e e' aZ)(k:fQ P aQ ρ H h v H' K):@al P _ (K0 t x' (lo.map e') (hi.map e') (aZ.map e')) h ⟨K⟩:=by
 simp only[cy]at d;split at d
 .rename_i c o B;rw[B]at h1;split at d
  .rename_i m w;split at d
   .rename_i q y;split at d
    .rename_i l z;cases hc:(vd l q&&vd q m&&vd m n)with
     |false=>rw[hc]at d;cases d
     |true=>
      rw[hc,cond_true]at d;simp only[vh]at hc;have c1:=fZ hc.1.1;have c2:=fZ hc.1.2;have c3:=fZ hc.2;have c4:=fZ u;cases h1 with
      |ptr o A=>simp only[al,K0,aJ,c0,r,avI,aR];refine Hh (e:=e) i g f (qG i w) (qG g y) (qG f z) (by simpa using s) c1 (.inr c2) (.inr c3) _ ?_;simp only[gD,hs];exact OT S A d (xN (xM.2 U)) (λe=>e) (λa b=>absurd b a) k
    .cases d
   .cases d
  .cases d
 .cases d
def aab(S:cD P aQ ρ H.get H.an h){t s aU:Nat}{e':su->o5}(R:P.underlying t=C (.slice s))(hs:cu P s=C aU)(b4:1<=aU){x:su}{lo hi aZ:Option su}{x':o5}(a8:(hi.isSome||aZ.isNone)=J)(f:cy call e H (.sl s aU x lo hi aZ)=C (v,H'))(h1:bj ρ (bW e x) x')(B:nE ρ e e' lo)(D:nE ρ e e' hi)(E:nE ρ e e' aZ)(k:fQ P aQ ρ H h v H' K):@al P _ (K0 t x' (lo.map e') (hi.map e') (aZ.map e')) h ⟨K⟩:=by
 have a7:∀(a:Option vm) (w cap l d m:Nat),x'=.slice a w cap->((aZ=o0/\m=cap)\/∃k x,aZ=C x/\e' x=.int k m)->((hi=o0/\d=w)\/∃k x,hi=C x/\e' x=.int k d)->((lo=o0/\l=0)\/∃k x,lo=C x/\e' x=.int k l)->l<=d->(hi=o0\/d<=m)->(aZ=o0\/m<=cap)->K (.slice (if m=l then a else a.map (·.add (l*aU))) (d- l) (m- l)) h->@al P _ (K0 t x' (lo.map e') (hi.map e') (aZ.map e')) h ⟨K⟩:=by
  rintro a w cap l d m rfl j F bl c1 c2 c3 hK;simp only[al,K0,aJ,c0,R];simp only[awX,aJ,c0,R];refine Hh (e:=e) E D B j F bl (by simpa using a8) c1 c2 c3 _ ?_;simp only[gD,hs,aR];exact hK
 simp only[cy]at f;split at f
 .rename_i c o w cap L;rw[L]at h1;split at f
  .rename_i m G;split at f
   .rename_i d bb;split at f
    .rename_i l W;split at f
     .rename_i u g;cases h1 with
      |sl o n m0 X=>
       rename_i b kk;have F:=qG D bb;have bl:=qG B W;have j:=qG E G;have M:∀dG:Nat,((aZ=o0/\dG=jr kk cap)\/∃k x,aZ=C x/\e' x=.int k dG)->l<=d->(hi=o0\/d<=dG)->(aZ=o0\/dG<=jr kk cap)->jr kk (m- l)=dG- l->(m=l->dG=l)->(m≠l->dG=l->l=0)->@al P _ (K0 t (.slice (C ⟨b,o,o0⟩) w (jr kk cap)) (lo.map e') (hi.map e') (aZ.map e')) h ⟨K⟩:=λdG q1 q2 y z q5 I p=>by
        refine a7 _ _ _ l d dG rfl q1 F bl q2 y z ?_;have:=OT S X f q5 I p k;split
        .rename_i e;rw[if_pos e]at this;exact this
        .rename_i e;rw[if_neg e]at this;exact this
       cases q:lx cap with
       |false=>
        simp only[q]at g;have r:jr kk cap=cap:=xN q;cases hc:(vd l d&&vd d m&&vd m cap)with
        |false=>rw[hc]at g;cases g
        |true=>simp only[vh]at hc;have c1:=fZ hc.1.1;have c2:=fZ hc.1.2;have c3:=fZ hc.2;have c4:=xM.1 q;exact M m (by rw[r];exact j) c1 (.inr c2) (.inr (by rw[r];exact c3)) (xN (xM.2 U)) (λe=>e) (λa b=>absurd b a)
       |true=>
        simp only[q]at g;split at g
        .rename_i own t' cs hg;obtain⟨bG,b5,az,hb⟩:=S.blk c _ hg;rw[X]at az;cases az;obtain⟨arr,fu,bJ,rest,q1,q2,y,z,q5,I⟩:=hb;obtain⟨b6,p,q8⟩:=I rfl;cases i:aZ with
         |none=>
          rw[i]at g;cases hc:(td t' s&&vd cap df&&td o ((df- cap)*aU)&&vd l d&&vd (o+d*aU) cs.length&&(lx (m- l)&&(td l 0||Kf (o+l*aU) cs.length)))with
          |false=>simp only[hc]at g;cases g
          |true=>
           simp only[vh,Bool.or_eq_true]at hc;obtain⟨⟨⟨⟨⟨dH,d2⟩,js⟩,jJ⟩,m6⟩,ox,nH⟩:=hc;have N:=beq_eq dH;have e2:=fZ d2;have A:=beq_eq js;have Q:=fZ jJ;have e5:=fZ m6;subst N;rw[hs]at p;cases p;have bp:cs.length<=kk*aU:=by rw[<- q8,<- au7,y,M3,z.length];omega
           have r:jr kk cap=kk- (df- cap):=Aa q;rw[i]at j;have bk:m=cap:=by rcases j with⟨_,h⟩|⟨_,_,h,_⟩;exact h;cases h
           subst bk;have hk:(df- m)+d<=kk:=by
            have:((df- m)+d)*aU<=kk*aU:=by rw[avh,<- A];omega
            exact azK this U
           have W:=Hi.1 ox;rw[<- i];refine M (kk- (df- m)) (.inl ⟨i,r.symm⟩) Q (.inr U) (.inl i) ?_ (λe=>by omega) (λ_ e=> ?_)
           .rw[Aa ox];omega
           .rcases nH with nH|nH
            .exact beq_eq nH
            .have nH:=rJ nH;have:((df- m)+l)*aU<kk*aU:=by rw[avh,<- A];omega
             have:=Nat.lt_of_mul_lt_mul_right this;omega
         |some xm=>
          rw[i]at g;cases hc:(td t' s&&vd cap df&&td o ((df- cap)*aU)&&vd l d&&vd (o+d*aU) cs.length&&(vd d m&&vd (o+m*aU) cs.length&&not (lx m)))with
          |false=>simp only[hc]at g;cases g
          |true=>
           simp only[vh]at hc;obtain⟨⟨⟨⟨⟨dH,d2⟩,js⟩,jJ⟩,m6⟩,⟨ox,nH⟩,d8⟩:=hc;have N:=beq_eq dH;have A:=beq_eq js;have Q:=fZ jJ;have e6:=fZ ox;have e7:=fZ nH;subst N;rw[hs]at p;cases p;have bp:cs.length<=kk*aU:=by rw[<- q8,<- au7,y,M3,z.length];omega
           have r:jr kk cap=kk- (df- cap):=Aa q;have hk:(df- cap)+m<=kk:=by
            have:((df- cap)+m)*aU<=kk*aU:=by rw[avh,<- A];omega
            exact azK this U
           have G:lx m=q9:=by simpa using d8
           have b9:=xM.1 G;rw[<- i];refine M m ?_ Q (.inr e6) (.inr (by rw[r];omega)) (xN (xM.2 U)) (λe=>e) (λa b=>absurd b a);rcases j with⟨h,_⟩|h
           .rw[i]at h;cases h
           .exact .inr h
        .cases g
     .cases f
    .cases f
   .cases f
  .cases f
 .rename_i L;rw[L]at h1;split at f
  .rename_i bM bE b3;cases f;cases h1;refine a7 o0 0 0 0 0 0 rfl (qG E bM) (qG D bE) (qG B b3) (vr _) (.inr (vr _)) (.inr (vr _)) ?_;exact k.same S (.uh _ _)
  .cases f
 .cases f
end
end
end Go.Nk
