/- Part Paf of the proof of ButtTexts: lemmas. -/
import Derived.Test.YthgephlghkjiaaaGreatDoorPae
set_option maxRecDepth 100000
set_option maxHeartbeats 4000000
set_option linter.all false
namespace Go.Nk
noncomputable section
open Go Go.Conc Go.Proofs
open _root_.Array renaming length_toList->au7,toList_inj->auT
open Bool renaming true->J,false->q9,eq_iff_iff->avL,and_eq_true->vh,false_eq_true->N2
open Go renaming Program->tb,FuncId->vb,Value->o5,TypeId->ta,TypeDesc->av7,MapEntry->HP,Operand->su,loadCells->ayH,Addr->vm
open Go.Builtin renaming copy_->ayA,lenOf->azN,firstCells->avy,zeroCells->awA,clear_->axI,growBy->azO,nextslicecap->axt,append_->auY
open Go.Instr renaming checkKey->azL,sameNow->axs,sameBits->axQ,findNow->avN,findKey->ayQ,lookup->awr,mapUpdate->axm,makeSlice->axl
open Go.IntKind renaming i64->xy
open Go.Question renaming appendCap->awB
open List renaming getElem?_toArray->au1,getElem?_cons_zero->au8,getElem?_cons_succ->avl,size_toArray->avH,length_append->M3,drop_of_length_le->av5,drop_drop->awb,take_append_drop->axu,mem_cons->B4,range'->awU,mem_append->D3
open Nat renaming add_zero->asg,zero_add->atI,ble->vd,blt->Kf,ble_eq_true_of_le->aus,beq->td,mul_le_mul->ayR,le_refl->vr,zero_mul->ayS,add_mul->avh
open Option renaming some->C,none->o0,map_none->azR
open Option.some renaming injEq->W6
open Prod.mk renaming injEq->at5
open Std.Legacy.Range renaming forIn_eq_forIn_range'->aCX,size->azQ
section
variable{P:tb}{aQ:Nat}{ρ:aX}{H H':aE}{h:ae}{call:vb->List o5->aE->Option (o5×aE)}{e:cL}{v:o5}{K:o5->ae->Prop}
def Cu{r:Nat}{o:Obj}{p:Bool}(a:h r=C ⟨o,p⟩)(h1:ae.mn o=J)(b:o.isChan=q9)(Q:Obj->ae->Prop):aH P (getObj r) h Q=Q o h:=by simp only[getObj,aH,a,h1,b,true_and]
def Hj{r:Nat}{o a:Obj}(b:h r=C ⟨o,J⟩)(h1:ae.mn o=J)(c:a.isChan=q9)(Q:Unit->ae->Prop):aH P (setObj r a) h Q=Q () (h.put r ⟨a,J⟩):=by simp only[setObj,aH,b,h1,c,true_and]
def Cv{b:Bool}{t:ta}{str:Bool}(a:oT P t=C str){x:o5}(Q:Unit->ae->Prop):aH P (azL b 10000 t x) h Q=Q () h:=by
 show aH P (azL b (9999+1) t x) h Q=_;generalize 9999=d;unfold oT at a;rw[azL];simp only[aJ,c0];cases c:P.underlying t with
 |none=>rw[c]at a;cases a
 |some d=>
  rw[c]at a;cases d<;>simp only[reduceCtorEq]at a<;>cases a
  .cases x<;>rfl
  .cases x<;>rfl
def OU(a b:ByteArray):(a==b)=(a.data==b.data):=by cases a;cases b;rfl
def OV{t:ta}{d:av7}{str:Bool}(e:oT P t=C str)(hd:P.underlying t=C d){x x' a f:o5}(i:bj ρ x x')(g:bj ρ a f){b:Bool}(c:zN str x a=C b):axs d x' f=C b/\(b=J->axQ 10000 f x'=J):=by
 unfold oT at e;rw[hd]at e;cases str with
 |true=>
  have:d=.string:=by cases d<;>simp at e;rfl
  subst this;simp only[zN]at c;split at c
  .cases c;cases i;cases g;simp only[axs,axQ];rw[Cp];rename_i p q;have j:((⟨⟨p⟩⟩:ByteArray)==⟨⟨q⟩⟩)=(p==q):=by rw[OU,avL,beq_iff_eq,beq_iff_eq];exact⟨λh=>by cases h;rfl,λh=>by rw[h]⟩
   have l:((⟨⟨q⟩⟩:ByteArray)==⟨⟨p⟩⟩)=(p==q):=by rw[OU,avL,beq_iff_eq,beq_iff_eq];exact⟨λh=>by cases h;rfl,λh=>by rw[h]⟩
   rw[j,l];exact⟨rfl,λh=>h⟩
  .cases c
 |false=>
  obtain⟨k0,rfl⟩:∃k0,d=.int k0:=by cases d<;>simp at e;exact⟨_,rfl⟩
  simp only[zN]at c;split at c
  .rename_i k a k' bG;cases i;cases g;cases hs:vC k k' with
   |false=>rw[hs]at c;cases c
   |true=>rw[hs,cond_true]at c;have:=He hs;subst this;cases c;simp only[axs,if_true,Co,axQ,true_and];simp;exactλh=>h.symm
  .cases c
def aac{t:ta}{d:av7}{str:Bool}(o:oT P t=C str)(hd:P.underlying t=C d){x x':o5}(k:bj ρ x x'):∀(es:List (o5×o5×Nat)) (b:List HP) (i:Nat),lY ρ es b->∀r,vF str x es=C r->match r with
  |some w=>∃j w',avN d x' b i=C (C (i+j,w'))/\bj ρ w w'/\j<b.length/\(∃m,b[j]? =C m/\axQ 10000 m.key x'=J)/\∀u f,bj ρ u f->lY ρ (vG str x u es) (b.modify j λe=> {e with key:=x',val:=f})
  |none=>avN d x' b i=C o0:=by
 intro es
 induction es with
 |nil=>
  intro b i h r c;cases b with
  |nil=>simp only[vF,W6]at c;subst c;rfl
  |cons _ _=>exact h.elim
 |cons p es z=>
  intro b i h r c;obtain⟨a,w,n⟩:=p;cases b with
  |nil=>exact h.elim
  |cons m b=>
   obtain⟨h1,q,s,v⟩:=h;simp only[vF]at c;split at c
   .rename_i g;cases c;obtain⟨this,A⟩:=OV o hd k h1 g;refine⟨0,m.val,by simp only[avN,this,asg],q,Y,⟨m,rfl,A rfl⟩,λu f l=> ?_⟩;simp only[vG,g,List.modify_zero_cons];exact⟨k,l,s,v⟩
   .rename_i g;have y:=(OV o hd k h1 g).1;have:=z b (i+1) v r c;cases r with
    |none=>simp only[avN,y]at this ⊢;exact this
    |some I=>
     obtain⟨j,w',B,D,E,⟨dG,F,G⟩,H⟩:=this;refine⟨j+1,w',?_,D,by simpa using E,⟨dG,by simpa using F,G⟩,λu f l=> ?_⟩
     .simp only[avN,y];rw[B,Nat.add_right_comm,Nat.add_assoc]
     .simp only[vG,g,List.modify_succ_cons];exact⟨h1,q,s,H u f l⟩
   .cases c
def Cw{c:ta}{str:Bool}(b:oT P c=C str){x x':o5}(q:bj ρ x x'){es:List (o5×o5×Nat)}{a:List HP}(s:lY ρ es a){r:Option o5}(i:vF str x es=C r)(Q:Option (Nat×o5)->ae->Prop)
  (hs:∀w j w',r=C w->bj ρ w w'->j<a.length->(∃m,a[j]? =C m/\axQ 10000 m.key x'=J)->(∀u f,bj ρ u f->lY ρ (vG str x u es) (a.modify j λe=> {e with key:=x',val:=f}))->Q (C (j,w')) h) (k:r=o0->Q o0 h):aH P (ayQ c x' a) h Q:=by
 cases hd:P.underlying c with
 |none=>unfold oT at b;rw[hd]at b;cases b
 |some d=>
  have:=aac b hd q es a 0 s r i;simp only[ayQ,aJ,c0,hd];cases r with
  |none=>simp only at this;rw[this];exact k rfl
  |some w=>obtain⟨j,w',g,l,n,o,p⟩:=this;rw[atI]at g;rw[g];exact hs w j w' rfl l n o p
def aad(S:cD P aQ ρ H.get H.an h){t g n:ta}{str kk:Bool}{z:o5}(q:P.underlying t=C (.map g n))(d:oT P g=C str)(r:fw P n=C z)(i:zU z=J){x y:su}{x' o:o5}(a:cy call e H (.lookup str z kk x y)=C (v,H'))(h1:bj ρ (bW e x) x')(p:bj ρ (bW e y) o)(k:fQ P aQ ρ H h v H' K):@al P _ (awr t x' o kk) h ⟨K⟩:=by
 simp only[cy]at a;split at a
 .rename_i c D;rw[D]at h1;split at a
  .rename_i own es I s;cases h1 with
   |map u=>
    obtain⟨bG,k',l,hb⟩:=S.blk c _ s;rw[u]at l;cases l;obtain⟨F,fu,A,G,m⟩:=hb;simp only[al,awr,aJ,c0,q];rw[Cu A rfl rfl];simp only[aJ,aR];rw[Cv d];split at a
    .rename_i w b;refine Cw d p m b _ (λE j w' e0 f B _ _=> ?_) (λe0=>by cases e0);cases e0;simp only[aJ,aR];cases kk with
     |true=>simp only at a;cases a;exact k.same S (.tuple (.cons f (.one (.bool _))))
     |false=>simp only at a;cases a;exact k.same S f
    .rename_i b;refine Cw d p m b _ (λE j w' e0 f B _ _=>by cases e0) (λ_=> ?_);simp only[aJ,kH,r,aR];cases kk with
     |true=>simp only at a;cases a;exact k.same S (.tuple (.cons (OD i) (.one (.bool _))))
     |false=>simp only at a;cases a;exact k.same S (OD i)
    .cases a
  .cases a
 .cases a
def aae{es:List (o5×o5×Nat)}{b:List HP}(c:lY ρ es b){a w:o5}{m:HP}(h1:bj ρ a m.key)(i:bj ρ w m.val):lY ρ (es++[(a,w,m.born)]) (b++[m]):=by
 induction es generalizing b with
 |nil=>
  cases b with
  |nil=>exact⟨h1,i,rfl,trivial⟩
  |cons _ _=>exact c.elim
 |cons p es d=>
  obtain⟨x,y,n⟩:=p;cases b with
  |nil=>exact c.elim
  |cons q b=>obtain⟨e,f,g,h⟩:=c;exact⟨e,f,g,d h⟩
def aaf(S:cD P aQ ρ H.get H.an h){t D el:ta}{str:Bool}(N:P.underlying t=C (.map D el))(s:oT P D=C str){x y z:su}{x' f d:o5}(a:cy call e H (.B9 str x y z)=C (v,H'))(h1:bj ρ (bW e x) x')(u:bj ρ (bW e y) f)(G:bj ρ (bW e z) d)(k:fQ P aQ ρ H h v H' K):@al P _ (axm t x' f d) h ⟨λ_ h=>K undef h⟩:=by
 simp only[cy]at a;split at a
 .rename_i c he;rw[he]at h1;split at a
  .rename_i es b g;cases i:vd H.cg c with
   |false=>rw[i]at a;cases a
   |true=>
    rw[i,cond_true]at a;cases h1 with
    |map l=>
     rename_i bb E;obtain⟨bG,k',F,hb⟩:=S.blk c _ g;rw[l]at F;cases F;obtain⟨n,fu,o,Q,p⟩:=hb;have:=Q rfl;subst this;have I:gL H c:=Cm i g rfl;simp only[al,axm,aJ,c0,N];rw[Cu o rfl rfl];simp only[aJ];rw[Cv s];split at a
     .rename_i w q;rw[aE.nB]at a;cases a;refine Cw s u p q _ (λw0 j w' e0 R W L M=> ?_) (λe0=>by cases e0);obtain⟨m,az,X⟩:=L;have ab:n[j]? =C m:=by rw[<- Array.getElem?_toList];exact az
      simp only[aJ,ab,Option.map_some,Option.getD_some,Instr.keyThatStays,X,if_true,aR];rw[Hj o rfl rfl];have r:Bk P ρ E (.mp J (vG str (bW e y) (bW e z) es) b) (C ⟨.map (n.modify j λe=> {e with key:=f,val:=d}) b,J⟩):=⟨_,J,rfl,λ_=>rfl,by rw[Array.toList_modify];exact M _ _ G⟩;obtain⟨A,B⟩:=Ha S g I rfl l r;exact k _ _ _ A bj.undef B
     .rename_i q;rw[aE.nB]at a;cases a;refine Cw s u p q _ (λw0 j w' e0 R W L M=>by cases e0) (λ_=> ?_);simp only;rw[Hj o rfl rfl];have r:Bk P ρ E (.mp J (es++[(bW e y,bW e z,b)]) (b+1)) (C ⟨.map (n.push {key:=f,val:=d,born:=b}) (b+1),J⟩):=⟨_,J,rfl,λ_=>rfl,by rw[Array.toList_push];exact aae (m:=⟨f,d,b⟩) p u G⟩;obtain⟨A,B⟩:=Ha S g I rfl l r;exact k _ _ _ A bj.undef B
     .cases a
  .cases a
 .cases a
def wrap_small{n:Nat}(b:n<4611686018427387904):xy.wrap (n:Int)=n:=by
 have e:=OJ .i64 (.ofNat n);have hb:Kf n 9223372036854775808=J:=aus U;have a:wr .i64 (.ofNat n)=.ofNat n:=by show cond (Kf n 128) (Int.ofNat n) (cond (Kf n 9223372036854775808) (Int.ofNat n) _)=_;rw[hb];cases Kf n 128<;>rfl
 rw[a]at e;exact e.symm
def um{t:ta}{i:TypeInfo}(hi:P.info? t=C i)(Q:TypeInfo->ae->Prop):aH P (typeInfo t) h Q=Q i h:=by simp only[typeInfo,aJ,mq,hi,aR]
def Cx{n:Nat}(Q:Unit->ae->Prop):aH P (askRoom n) h Q=Q () h:=by
 unfold askRoom;split
 .rw[Oa];simp[mo]
 .rfl
def aag(S:cD P aQ ρ H.get H.an h)(u:aQ<=H.an){t d m bs:Nat}{z:o5}(w:P.underlying t=C (.slice d))(A:fw P d=C z)(hs:cu P d=C m)(g:l1 P d=C bs)
  (n:(lC (eD z)&&td (eD z).length m&&vd 1 m)=J) {x y:su} {x' q:o5} (f:cy call e H (.mkSlice d m bs (eD z) x y)=C (v,H')) (h1:bj ρ (bW e x) x') (r:bj ρ (bW e y) q) (k:fQ P aQ ρ H h v H' K):
  @al P _ (axl t x' q) h ⟨K⟩:=by
 simp only[vh]at n;obtain⟨⟨B,R⟩,W⟩:=n;have X:=beq_eq R;have D:=fZ W;have E:z.cells.size=m:=by rw[<- au7,<- sP];exact X
 have F:cT ρ (eD z) z.cells.toList:=by rw[<- sP];exact vO B
 simp only[cy]at f;split at f
 .rename_i k1 l k2 c G I;rw[G]at h1;rw[I]at r;cases h1;cases r;cases hc:(vd l c&&vd c 1000&&vd bs 1000)with
  |false=>rw[hc]at f;cases f
  |true=>
   rw[hc,cond_true,aE.qD]at f;cases f;simp only[vh]at hc;have c1:=fZ hc.1.1;have c2:=fZ hc.1.2;have c3:=fZ hc.2;have wl:xy.wrap (Int.ofNat l)=(l:Int):=wrap_small U;have wc:xy.wrap (Int.ofNat c)=(c:Int):=wrap_small U;obtain⟨j,L,M⟩:∃j,P.info? d=C j/\j.bytes=bs:=by
    unfold l1 at g;cases o:P.info? d with
    |none=>rw[o]at g;cases g
    |some j=>rw[o]at g;cases g;exact⟨j,rfl,rfl⟩
   have s:aH P (newRow d ⟨lW z.cells.toList c⟩) h (λa h=>K (.slice (C a) l c) h):=by simp only[newRow,aJ,qo,aR];intro b hb;obtain⟨s1,s2⟩:=Hb S u (t:=d) hb (Cr F c);have p:=bj.sl (ρ:=ρ.ext H.an b 0) 0 l c aX.mz;rw[xN (xM.2 U)]at p;exact k _ _ _ s1 p s2
   have a6:(bs:Int)*(c:Int)<=1000000:=by have:bs*c<=1000*1000:=ayR c3 c2;rw[<- Int.natCast_mul];exact Int.ofNat_le.2 this
   have a7:c*bs<=1000000:=by have:c*bs<=1000*1000:=ayR c2 c3;exact this
   simp only[al,axl,aJ,c0,w,asInt,asIntOf,aR];rw[um L];simp only[wl,wc,M];rw[if_neg (by simp only[Bool.or_eq_true,decide_eq_true_eq];omega)];simp only[aJ,Cx,gD,hs,Int.toNat_natCast];by_cases h0:c*m=0
   .have N:c=0:=by rcases Nat.mul_eq_zero.1 h0 with h|h<;>omega
    have Q:(Array.range (c*m)).map (λi=>(#[]:Array o5)[i%(#[]:Array o5).size]!)=⟨lW z.cells.toList c⟩:=by rw[N];simp[lW]
    rw[if_pos h0];simp only[aJ,aR];rw[Q];exact s
   .rw[if_neg h0];simp only[aJ,kH,A,aR];rw[Hg E D];exact s
 .cases f
def Hk{b o n:Nat}{vs:List o5}(hc:h.iS ⟨b,o,o0⟩ 0 n=C vs)(Q:Array o5->ae->Prop):aH P (ayH ⟨b,o,o0⟩ n) h Q=Q ⟨vs⟩ h:=by unfold ayH;rw[Ot,hc];simp
def aah(S:cD P aQ ρ H.get H.an h){t d f:Nat}{dD:List ta}{ty:ta}(j:P.underlying t=C (.slice d))(hs:cu P d=C f){x y:su}{x' g:o5}(a:cy call e H (.copy f x y)=C (v,H'))(h1:bj ρ (bW e x) x')(i:bj ρ (bW e y) g)(k:fQ P aQ ρ H h v H' K):@al P _ (ayA ⟨t::dD⟩ ty ⟨[x',g]⟩) h ⟨K⟩:=by
 simp only[cy]at a;split at a
 .rename_i b o n c1 bG D m c2 l p;rw[l]at h1;rw[p]at i;rw[jI]at a;cases h1 with
  |sl o n M q=>
   cases i with
   |sl D m G r=>
    obtain⟨N,I,E,s,L,c,_⟩:=xK S r a;obtain⟨Q,h1,u,w,z,A⟩:=zY S q s E;cases u;have B:(bif vd m n then m else n)=Nat.min m n:=by
     cases hb:vd m n with
     |true=>exact(Nat.min_eq_left (fZ hb)).symm
     |false=>
      have:¬m<=n:=λF=>by rw[aus F]at hb;cases hb
      rw[cond_false];exact(Nat.min_eq_right U).symm
    rw[B]at k c;simp only[al,ayA,au1,au8,avl,aJ,c0,j,azN,aR,gD,hs,avy];rw[Hk c,zI];refine A _ ?_;exact k _ _ _ w (.int _ _) z
 .cases a
def Hl{z:o5}{m n:Nat}(a:z.cells.size=m)(h1:1<=m):awA z.cells n=⟨lW z.cells.toList n⟩:=by unfold awA;have:=Hg (n:=n) a h1;rw[<- a]at this;exact this
def aai(S:cD P aQ ρ H.get H.an h){t l m:Nat}{ty:ta}{z:o5}(j:P.underlying t=C (.slice l))(p:fw P l=C z)(f:(lC (eD z)&&vd 1 (eD z).length)=J){x:su}{x':o5}(d:cy call e H (.clear (eD z) x)=C (v,H'))(h1:bj ρ (bW e x) x')(k:fQ P aQ ρ H h v H' K):@al P _ (axI ⟨[t]⟩ ty ⟨[x']⟩) h ⟨K⟩:=by
 simp only[vh]at f;have q:cT ρ (eD z) z.cells.toList:=by rw[<- sP];exact vO f.1
 have D:=fZ f.2;simp only[cy]at d;split at d
 .rename_i a c i;cases d;rw[i]at h1;have:∃g bJ,x'=.slice g 0 bJ:=by cases h1<;>exact⟨_,_,rfl⟩
  obtain⟨g,bJ,rfl⟩:=this;simp only[al,axI,au1,au8,aJ,c0,j];cases g<;>exact k.same S (.tuple .nil)
 .rename_i b o n c r i;rw[i]at h1;cases h1 with
  |sl o n E s=>obtain⟨F,h1,u,w,y,A⟩:=zY S s (Cr q n) d;cases u;have B:n≠0:=λe0=>r e0;simp only[al,axI,au1,au8,aJ,c0,j];obtain⟨n,rfl⟩:=Nat.exists_eq_succ_of_ne_zero B;simp only[kH,p,zI];rw[Hl rfl (by rw[<- au7,<- sP];exact D)];refine A _ ?_;exact k _ _ _ w (.tuple .nil) y
 .cases d
end
section
variable{P:tb}{aQ:Nat}{ρ:aX}{H H':aE}{h:ae}{call:vb->List o5->aE->Option (o5×aE)}{e:cL}{v:o5}{K:o5->ae->Prop}
def OW:∀(r n c:Nat),c<2*n+300->azO n r c<2*n+300
 | 0,n,c,h=>by rw[azO];exact h
 |r+1,n,c,h=>by
  rw[azO];split
  .exact h
  .exact OW r n _ U
def OX{n c:Nat}(a:c<n):axt n c<=2*n+300:=by
 unfold axt;split
 .omega
 .split
  .omega
  .have:=OW 4 n c U;omega
def sR{t cU c p e bs:Nat}{ty:ta}{z:o5}(q:P.underlying t=C (.slice c))(r:P.underlying cU=C (.slice p))(hs:cu P c=C e)(f:l1 P c=C bs)(s:fw P c=C z)(k:z.cells.size=e)(u:1<=e)(E:1<=bs)
  {base:Option vm} {len cap:Nat} {a2:Option vm} {m c2:Nat} {new':List o5} (l:∀Q,aH P (avy e m (.slice a2 m c2)) h Q=Q ⟨new'⟩ h)
  (w:len+m<=cap->match base with|some a=>nx h (a.add (len*e)) 0 new' (λh=>K (.slice base (len+m) cap) h)|none=>K (.slice base (len+m) cap) h)
  (nI:cap<len+m->len+m<=200000/\bs<=1000/\∃g,(∀Q,aH P (avy e len (.slice base len cap)) h Q=Q ⟨g⟩ h)/\∀i,len+m<=i->∀b,h b=o0->∀rest:List o5,rest.length=(i- (len+m))*e->K (.slice (C ⟨b,0,o0⟩) (len+m) i) (h.put b ⟨.cells ⟨g++new'++rest⟩ c,J⟩)):
  aH P (auY ⟨[t,cU]⟩ ty ⟨[.slice base len cap,.slice a2 m c2]⟩) h K:=by
 obtain⟨d,j,n⟩:∃d,P.info? c=C d/\d.bytes=bs:=by
  unfold l1 at f;cases o:P.info? c with
  |none=>rw[o]at f;cases f
  |some d=>rw[o]at f;cases f;exact⟨d,rfl,rfl⟩
 simp only[auY,au1,au8,avl,aJ,c0,q,r,gD,hs,aR,N2,if_false,azN,Bool.not_false,if_true];by_cases hc:len+m<=cap
 .rw[if_pos hc];simp only[aJ,l];have:=w hc;cases base with
  |none=>exact this
  |some a=>simp only[aJ,zI];exact this
 .rw[if_neg hc];obtain⟨F,x,g,y,A⟩:=nI U;simp only[aJ];rw[um j];have bK:¬(((len+m:Nat):Int)>xy.max/\(False\/d.bytes=0)):=by
   rw[n];rintro⟨_,h|h⟩
   .exact h
   .omega
  have bR:¬(axt (len+m) cap*d.bytes>2^48):=by
   have B:=OX (U:cap<len+m);have G:axt (len+m) cap*d.bytes<=(2*(len+m)+300)*1000:=ayR B (by rw[n];exact x);have:(2:Nat)^48=281474976710656:=aty
   omega
  rw[if_neg (by simpa using bK)];simp only[aJ];rw[um j,if_neg bR];simp only[aJ,xc,Question.forced,N2,if_false];intro mR;rw[um j];simp only[Cx,y,l,kH,s,newRow,aJ,qo,aR];intro b hb;have v:len+m<=(awB (len+m) cap c).cut mR:=by show len+m<=len+m+_;exact Nat.le_add_right _ _
  have:=A _ v b hb (awA z.cells ((awB (len+m) cap c).cut mR- (len+m))).toList (by rw[Hl k u];simp only[Cs,au7,k]);have D:(⟨g⟩++⟨new'⟩++awA z.cells ((awB (len+m) cap c).cut mR- (len+m)):Array o5)=⟨g++new'++(awA z.cells ((awB (len+m) cap c).cut mR- (len+m))).toList⟩:=by apply auT.1;simp
  rw[D];exact this
def OY(S:cD P aQ ρ H.get H.an h)(az:aQ<=H.an){c b kk:Nat}{x y:cj}{o:dL}(j:H.get c=C x)(F:gL H c)(M:x.live=J)(hc:ρ c=C (b,kk)){bE l:Nat}(t:bE=b\/h bE=o0)(N:Bk P (ρ.ext H.an bE l) l y (C o)):cD P aQ (ρ.ext H.an bE l) ((H.set c .dead).new y).get ((H.set c .dead).new y).an (h.put bE o)/\gq H ρ h ((H.set c .dead).new y) (ρ.ext H.an bE l) (h.put bE o):=by
 have a6:c<H.an:=Nat.lt_of_not_le λQ=>by rw[S.dX c Q]at hc;cases hc
 have R:=S.dX H.an (vr _);have le:=aX.xL (b:=bE) (k:=l) R;have n:∀d z,((H.set c .dead).new y).get d=C z->d≠H.an->z.live=J->H.get d=C z/\d≠c:=λd z hd w p=>by
  have e:(H.set c .dead).an=H.an:=rfl;rw[aE.vN,e,if_neg w,aE.sO j]at hd;split at hd
  .cases hd;cases p
  .rename_i f;exact⟨hd,f⟩
 have ag:∀d z,((H.set c .dead).new y).get d=C z->d≠H.an->∃A,H.get d=C A:=λd z hd w=>by
  have e:(H.set c .dead).an=H.an:=rfl;rw[aE.vN,e,if_neg w,aE.sO j]at hd;split at hd
  .rename_i f;rw[f];exact⟨x,j⟩
  .exact⟨z,hd⟩
 have same:∀z,((H.set c .dead).new y).get H.an=C z->z=y:=λz hd=>by
  have e:(H.set c .dead).an=H.an:=rfl;rw[aE.vN,e,if_pos rfl]at hd;split at hd
  .cases hd
  .cases hd;rfl
 have lz:∀d z bb k,H.get d=C z->z.live=J->d≠c->ρ d=C (bb,k)->bb≠bE:=λd z bb k hd p f G e=>by
  subst e;rcases t with a|a
  .subst a;exact f (S.inj d c z x bb k kk hd j p M G hc)
  .obtain⟨bG,k',h1,i⟩:=S.blk d z hd;rw[G]at h1;cases h1;obtain⟨yy,I⟩:=i.isSome p;rw[a]at I;cases I
 refine⟨⟨λd z hd=> ?_,λd e u v bb k k' hd L s q h1 i=> ?_,λd hd=> ?_,λg j=> ?_⟩,le,λd hd=>aX.l6 U,Nat.le_succ _,rfl,rfl,λd hd B=> ?_,λbb z D W=> ?_,λd u bb k hd B a8 h1=> ?_⟩
 .by_cases e:d=H.an
  .subst e;rw[same z hd];exact⟨bE,l,aX.mz,by rw[rv];exact N⟩
  .obtain⟨A,X⟩:=ag d z hd e;obtain⟨bb,k,h1,i⟩:=S.blk d A X;refine⟨bb,k,by rw[aX.l6 e];exact h1,?_⟩;cases E:z.live with
   |false=>cases z<;>simp[cj.live]at E;trivial
   |true=>obtain⟨r,f⟩:=n d z hd e E;obtain⟨ba,k',K,ab⟩:=S.blk d z r;rw[h1]at K;cases K;rw[oe _ _ (lz d z bb k r E f h1)];exact ab.mono le
 .by_cases m:d=H.an<;>by_cases a:e=H.an
  .rw[m,a]
  .subst m;rw[aX.mz]at h1;cases h1;rw[aX.l6 a]at i;obtain⟨ad,af⟩:=n e v L a q;exact absurd rfl (lz e v bE k' ad q af i)
  .subst a;rw[aX.mz]at i;cases i;rw[aX.l6 m]at h1;obtain⟨r,f⟩:=n d u hd m s;exact absurd rfl (lz d u bE k r s f h1)
  .rw[aX.l6 m]at h1;rw[aX.l6 a]at i;exact S.inj d e u v bb k k' (n d u hd m s).1 (n e v L a q).1 s q h1 i
 .have:H.an+1<=d:=hd;rw[aX.l6 U];exact S.dX d U
 .rw[aX.l6 U];exact S.rI g j
 .have f:d≠c:=λe=>B (by rw[e];exact F);rw[aE.ug,(atz:(H.set c .dead).an=H.an),if_neg U,aE.vM,if_neg f]
 .have:bb≠bE:=λe=>by
   subst e;rcases t with a|a
   .subst a;exact W c kk F hc
   .rw[a]at D;cases D
  rw[oe _ _ this];exact D
 .by_cases e:d=H.an
  .subst e;rw[aX.mz]at h1;cases h1;rcases t with a|a
   .subst a;exact .inr ⟨c,kk,F,hc⟩
   .exact .inl a
  .rw[aX.l6 e,S.dX d B]at h1;cases h1
def uo{b o n m c:Nat}{vs:List o5}{a:Nat}(hc:h.iS ⟨b,o,o0⟩ 0 (m*a)=C vs)(Q:Array o5->ae->Prop):aH P (avy a m (.slice (C ⟨b,o,o0⟩) n c)) h Q=Q ⟨vs⟩ h:=Hk hc Q
def OZ(S:cD P aQ ρ H.get H.an h)(f:aQ<=H.an){t c:Nat}{l a rest:List o5}{b dq:Nat}(hs:cu P t=C c)(hb:h b=o0)(d:cT ρ l a)(g:l.length+rest.length=dq*c):cD P aQ (ρ.ext H.an b dq) (H.new (.cs J J t l)).get (H.new (.cs J J t l)).an (h.put b ⟨.cells ⟨a++rest⟩ t,J⟩)/\gq H ρ h (H.new (.cs J J t l)) (ρ.ext H.an b dq) (h.put b ⟨.cells ⟨a++rest⟩ t,J⟩):=
 Cn S (kk:=dq) (x:=.cs J J t l) (o:=⟨.cells ⟨a++rest⟩ t,J⟩) f hb ⟨_,J,a,rest,rfl,λ_=>rfl,rfl,d.mono (aX.xL (S.dX _ (vr _))),(λe=>by cases e),λ_=>⟨c,hs,by simp only[avH,M3,d.length];exact g⟩⟩
def oy(k:Nat):jr k df=k:=by have:lx df=J:=Hi.2 (by unfold df;omega);rw[Aa this];simp
def aaj(S:cD P aQ ρ H.get H.an h)(az:aQ<=H.an){t cU B c6 aU bs:Nat}{ty:ta}{z:o5}(F:P.underlying t=C (.slice B))(G:P.underlying cU=C (.slice c6))(hs:cu P B=C aU)(I:l1 P B=C bs)(L:fw P B=C z)
  (hp:(vd 1 aU&&td (eD z).length aU&&vd 1 bs)=J) {x y:su} {x' y':o5} (d:cy call e H (.app B aU bs x y)=C (v,H')) (h1:bj ρ (bW e x) x') (h2:bj ρ (bW e y) y') (k:fQ P aQ ρ H h v H' K):
  @al P _ (auY ⟨[t,cU]⟩ ty ⟨[x',y']⟩) h ⟨K⟩:=by
 simp only[vh]at hp;have M:=fZ hp.1.1;have N:=fZ hp.2;have R:z.cells.size=aU:=by rw[<- au7,<- sP];exact beq_eq hp.1.2
 simp only[cy]at d;split at d
 .rename_i bE m c2 b6;rw[b6]at h2;have key:∀{kk:List o5->Option (o5×aE)},((match bE with
    |some ⟨b,o,o0⟩=>pE H b o (m*aU)
    |_=>λk=>cond (td m 0) (k []) o0) kk)=C (v,H')->∃vs a7 a2 s,y'=.slice a2 m s/\kk vs=C (v,H')/\cT ρ vs a7/\vs.length=m*aU/\∀Q,aH P (avy aU m (.slice a2 m s)) h Q=Q ⟨a7⟩ h:=by
   intro kk q;split at q
   .rename_i b o;generalize ee:y'=yy at h2;cases h2 with
    |sl o n ea j=>obtain⟨vs,a7,r,u,w,A,_⟩:=xK S j q;exact⟨vs,a7,_,_,rfl,r,u,w,λQ=>uo A Q⟩
   .rename_i eg;have q:cond (td m 0) (kk []) o0=C (v,H'):=q;cases hm:td m 0 with
    |false=>rw[hm]at q;cases q
    |true=>
     rw[hm,cond_true]at q;have dd:=beq_eq hm;subst dd;have:∃a2 s,y'=.slice a2 0 s:=by cases h2<;>exact⟨_,_,rfl⟩
     obtain⟨a2,s,rfl⟩:=this;refine⟨[],[],a2,s,rfl,q,.nil,Y,λQ=> ?_⟩;cases a2 with
     |none=>rfl
     |some a=>show aH P (ayH a (0*aU)) h Q=_;rw[ayS];rfl
  obtain⟨new,i,a2,s,rfl,b8,p,a8,W⟩:=key d;clear key b6 h2 d;have d:=b8;clear b8;split at d
  ·
   rename_i b5;rw[b5]at h1;cases h1;cases m with
   |zero=>cases d;refine sR F G hs I L R M N W (λ_=> ?_) (λbl=>by omega);exact k.same S (.uh _ _)
   |succ m0=>
    simp only at d;cases hc:(vd (m0+1) 200&&vd bs 1000)with
    |false=>rw[hc]at d;cases d
    |true=>rw[hc,cond_true,aE.qD]at d;cases d;simp only[vh]at hc;refine sR F G hs I L R M N W (λl=>by omega) (λ_=>⟨by have:=fZ hc.1;omega,fZ hc.2,[],λQ=>rfl,λdq bm b hb rest j=> ?_⟩);obtain⟨D,E⟩:=OZ S az hs hb p (rest:=rest) (dq:=dq) (by rw[a8,j,<- avh];congr 1;omega);have g:=bj.sl (ρ:=ρ.ext H.an b dq) 0 (m0+1) df aX.mz;rw[oy]at g;have:=k _ _ _ D g E;simp only[List.nil_append,atI]at this ⊢;exact this
  .rename_i c o f cap b5;rw[b5]at h1;rw[jI]at d;cases hc:(vd (f+m) 200&&vd bs 1000)with
   |false=>rw[hc]at d;cases d
   |true=>
    rw[hc,cond_true]at d;simp only[vh]at hc;have g1:=Nat.le_trans (fZ hc.1) (aty:200<=200000);have g2:=fZ hc.2;cases h1 with
    |sl o n ea j=>
     rename_i b kk;cases ba:lx cap with
     |false=>
      rw[ba,cond_false]at d;have ab:jr kk cap=cap:=xN ba;rw[ab];cases l:vd (f+m) cap with
      |true=>rw[l,cond_true]at d;obtain⟨H1,h1,r,u,w,A⟩:=zY S j p d;cases r;refine sR F G hs I L R M N W (λ_=> ?_) (λbl=>by have:=fZ l;omega);show nx h ((⟨b,o,o0⟩:vm).add (f*aU)) 0 i _;rw[kU];refine A _ ?_;have g:=bj.sl (ρ:=ρ) o (f+m) cap j;rw[ab]at g;exact k _ _ _ u g w
      |false=>
       rw[l,cond_false]at d;have de:¬f+m<=cap:=λh=>by rw[aus h]at l;cases l
       obtain⟨eo,ds,r,u,w,A,_⟩:=xK S j d;rw[aE.qD]at r;cases r;refine sR F G hs I L R M N W (λl=>absurd l de) (λ_=>⟨g1,g2,ds,λQ=>uo A Q,λdq bm bE bn rest bp=> ?_⟩);obtain⟨D,E⟩:=OZ S az hs bn (u.append p) (rest:=rest) (dq:=dq) (by rw[M3,w,a8,bp,<- avh,<- avh];congr 1;omega);have g:=bj.sl (ρ:=ρ.ext H.an bE dq) 0 (f+m) df aX.mz;rw[oy]at g;exact k _ _ _ D g E
     |true=>
      rw[ba,cond_true]at d;split at d
      .rename_i X cs hg;obtain⟨bG,eh,b9,hb⟩:=S.blk c _ hg;rw[j]at b9;cases b9;obtain⟨arr,fu,bJ,rest,r1,r2,r3,r4,r5,r6⟩:=hb;have:=r2 rfl;subst this;obtain⟨en,r7,r8⟩:=r6 rfl;have ab:jr kk cap=kk- (df- cap):=Aa ba;have dx:cs.length+rest.length=arr.size:=by rw[<- au7,r3,M3,r4.length]
       cases bt:vd (o+(f+m)*aU) cs.length with
       |true=>
        rw[bt,cond_true]at d;cases hd:(td X B&&vd cap df&&td o ((df- cap)*aU))with
        |false=>rw[hd]at d;cases d
        |true=>
         rw[hd,cond_true]at d;simp only[vh]at hd;have dH:=beq_eq hd.1.1;have d2:=fZ hd.1.2;have js:=beq_eq hd.2;subst dH;rw[hs]at r7;cases r7;have jJ:=fZ bt;have q:(df- cap)+(f+m)<=kk:=by
          have:((df- cap)+(f+m))*aU<=kk*aU:=by rw[avh,<- js];omega
          exact Nat.le_of_mul_le_mul_right this U
         obtain⟨H1,h1,r,u,w,A⟩:=zY S j p d;cases r;rw[ab];refine sR F G hs I L R M N W (λ_=> ?_) (λbl=>by omega);show nx h ((⟨b,o,o0⟩:vm).add (f*aU)) 0 i _;rw[kU];refine A _ ?_;have g:=bj.sl (ρ:=ρ) o (f+m) cap j;rw[ab]at g;exact k _ _ _ u g w
       |false=>
        rw[bt,cond_false]at d;cases hd:(td o 0&&td cs.length (f*aU)&&vd H.cg c&&td cap df&&td X B&&pD new)with
        |false=>rw[hd]at d;cases d
        |true=>
         rw[hd,cond_true,aE.nB,aE.qD]at d;simp only[vh]at hd;obtain⟨⟨⟨⟨⟨dH,d2⟩,js⟩,jJ⟩,m6⟩,ox⟩:=hd;have dH:=beq_eq dH;have d2:=beq_eq d2;have jJ:=beq_eq jJ;have m6:=beq_eq m6;subst dH;subst jJ;subst m6;rw[hs]at r7;cases r7;have hw:gL H c:=Cm js hg rfl;cases d;rw[oy];have b0:bJ.length=f*aU:=by rw[r4.length,d2]
         refine sR F G hs I L R M N W (λl=> ?_) (λbl=> ?_)
         ·
          show nx h ((⟨b,0,o0⟩:vm).add (f*aU)) 0 i _;rw[kU,atI];have cb:f*aU+i.length<=arr.size:=by rw[p.length,a8,r8,<- avh];exact Nat.mul_le_mul_right _ l
          obtain⟨bS⟩:=arr;simp only at r3;subst r3;refine OH i (bJ++rest) 0 h r1 (by simpa using cb) (by rw[p.OC];exact ox) ?_;rw[asg];have dA:ib (f*aU) i (bJ++rest)=(bJ++i)++rest.drop i.length:=by unfold ib;rw[<- b0,List.take_left,List.drop_append];simp
          rw[dA];have hy:Bk P (ρ.ext H.an b kk) kk (.cs J J X (cs++new)) (C ⟨.cells ⟨(bJ++i)++rest.drop i.length⟩ X (0,0),J⟩):=by refine⟨_,J,bJ++i,_,rfl,λ_=>rfl,rfl,(r4.append p).mono (aX.xL (S.dX _ (vr _))),(λe=>by cases e),λ_=>⟨aU,hs,?_⟩⟩;rw[<- r8];simp only[avH,M3,List.length_drop]at cb ⊢;omega
          obtain⟨D,E⟩:=OY S az hg hw rfl j (.inl rfl) hy;have g:=bj.sl (ρ:=ρ.ext H.an b kk) 0 (f+m) df aX.mz;rw[oy]at g;exact k _ _ _ D g E
         ·
          have ed:h.iS ⟨b,0,o0⟩ 0 (f*aU)=C bJ:=by rw[OG r1 _ _ (by rw[<- dx,d2];omega),r3];simp[<- b0]
          refine⟨g1,g2,bJ,λQ=>uo ed Q,λdq bm bE bn cc bp=> ?_⟩;have hy:Bk P (ρ.ext H.an bE dq) dq (.cs J J X (cs++new)) (C ⟨.cells ⟨bJ++i++cc⟩ X (0,0),J⟩):=by refine⟨_,J,bJ++i,cc,rfl,λ_=>rfl,rfl,(r4.append p).mono (aX.xL (S.dX _ (vr _))),(λe=>by cases e),λ_=>⟨aU,hs,?_⟩⟩;simp only[avH,M3,b0,p.length,a8,bp];have e9:f+m+(dq- (f+m))=dq:=Nat.add_sub_cancel' bm;rw[<- avh,<- avh,e9]
          obtain⟨D,E⟩:=OY S az hg hw rfl j (.inr bn) hy;have g:=bj.sl (ρ:=ρ.ext H.an bE dq) 0 (f+m) df aX.mz;rw[oy]at g;exact k _ _ _ D g E
      .cases d
  .cases d
 .cases d
end
def nJ(P:tb)(t:ta)(l:List o5):o5:=cond (ui ((P.underlying t).getD .invalid)) (.agg ⟨l⟩) (l.headD undef)
section
variable{P:tb}{h:ae}
def Pa:∀(a d b bG:List o5) (r:Bool),a.length=d.length->oQ (a++b) (d++bG)=C r->∃f,oQ a d=C f/\(f=q9->r=q9)/\(f=J->oQ b bG=C r)
 | [],[],b,bG,r,_,h=>⟨J,rfl,(λh=>by cases h),λ_=>h⟩
 |x::a,y::d,b,bG,r,e,h=>by
  simp only[List.cons_append,oQ]at h ⊢;cases hb:vD x y with
  |none=>rw[hb]at h;cases h
  |some c=>
   rw[hb]at h;cases c with
   |true=>exact Pa a d b bG r (by simpa using e) h
   |false=>simp only[W6]at h;exact⟨q9,rfl,λ_=>h.symm,λh=>(by cases h)⟩
 | [],_::_,_,_,_,e,_=>by cases e
 |_::_,[],_,_,_,e,_=>by cases e
def Ab{t:ta}{d:av7}(a:P.underlying t=C d)(hd:ui d=J)(l:List o5):nJ P t l=.agg ⟨l⟩:=by simp[nJ,a,hd]
def Hm{t:ta}{d:av7}(a:P.underlying t=C d)(hd:ui d=q9)(v:o5)(l:List o5):nJ P t (v::l)=v:=by simp[nJ,a,hd]
def Pb{t n d:Nat}(a:qE P d t=C n){cs:List o5}{o:Nat}(v:o+n<=cs.length)(Q:o5->ae->Prop):aH P (part t ⟨cs⟩ o) h Q=Q (nJ P t ((cs.drop o).take n)) h:=by
 cases d with
 |zero=>cases a
 |succ d=>
  rw[qE]at a;have one:∀iK,P.underlying t=C iK->ui iK=q9->fS P t=C o0->n=1->aH P (part t ⟨cs⟩ o) h Q=Q (nJ P t ((cs.drop o).take n)) h:=λiK h1 f e u=>by
   subst u;rw[z8 Q _ e];have p:o<cs.length:=U
   rw[List.getElem?_eq_getElem p,List.drop_eq_getElem_cons p,List.take_succ_cons,Hm h1 f]
  have r:∀iK,P.underlying t=C iK->ui iK=J->fS P t=C (C n)->aH P (part t ⟨cs⟩ o) h Q=Q (nJ P t ((cs.drop o).take n)) h:=λiK h1 f e=>by rw[z8 Q _ e,Ab h1 f]
  have s:∀m,cu P t=C m->((∃g,P.underlying t=C (.struct g))\/∃k j,P.underlying t=C (.array k j))->fS P t=C (C m):=λm c b=>by
   unfold cu at c;cases hi:P.info? t with
   |none=>rw[hi]at c;cases c
   |some i=>rw[hi]at c;cases c;unfold fS;rcases b with⟨g,b⟩|⟨k,j,b⟩<;>rw[b,hi]
  split at a
  .rename_i k b;exact one _ b rfl (by simp[fS,b]) (by cases a;rfl)
  .rename_i g b;split at a
   .rename_i m c;cases q:P.stoodInHeld t with
    |true=>rw[q]at a;cases a
    |false=>
     rw[q,cond_false]at a;split at a
     .rename_i l w;cases hb:td l m with
      |false=>rw[hb]at a;cases a
      |true=>rw[hb,cond_true]at a;cases a;have:=beq_eq hb;subst this;exact r _ b rfl (s _ c (.inl ⟨g,b⟩))
     .cases a
   .cases a
  .rename_i k j b;split at a
   .rename_i l bK m h1 f e;cases hb:(td l bK&&td (k*l) m)with
    |false=>rw[hb]at a;cases a
    |true=>rw[hb,cond_true]at a;simp only[vh]at hb;cases a;have:=beq_eq hb.2;subst this;exact r _ b rfl (s _ e (.inr ⟨k,j,b⟩))
   .cases a
  .cases a
def xO(P:tb)(d:Nat){α:Type}(ty:α->ta)(a:α->Nat):List α->Nat->Nat->Prop
 | [],o,m=>o=m
 |p::bc,o,m=>∃n,qE P d (ty p)=C n/\a p=o/\xO P d ty a bc (o+n) m
def Pd{d:Nat}{α:Type}{ty:α->ta}{a:α->Nat}:∀(bc:List α) (o m:Nat),xO P d ty a bc o m->o<=m
 | [],o,m,h=>Nat.le_of_eq h
 |p::bc,o,m,⟨n,_,_,h⟩=>by have:=Pd bc _ _ h;omega
def Pe{α:Type}{D d:Nat}(ty:α->ta)(f:α->Nat)(a b:List o5)(m:Nat)(G:a.length=m)(hb:b.length=m)(F:α->Option Bool×Unit->Sem (ForInStep (Option Bool×Unit)))
  (k:∀(t n:Nat) (x y:List o5) (r:Bool),qE P d t=C n->x.length=n->y.length=n->oQ x y=C r->∀Q,aH P (Op.equalIn D t (nJ P t x) (nJ P t y)) h Q=Q r h):
  ∀(bc:List α) (o:Nat) (r:Bool),xO P d ty f bc o m->(∀p∈bc,∀s,F p s=(do let x <- part (ty p) ⟨a⟩ (f p);let y <- part (ty p) ⟨b⟩ (f p);let r <- Op.equalIn D (ty p) x y;if(!r)=J then pure (.done (C q9,()))else pure (.yield (o0,()))))->
   oQ (a.drop o) (b.drop o)=C r->
   ∀Q,aH P (forIn bc ((o0,()):Option Bool×Unit) F) h Q=Q (if r then o0 else C q9,()) h:=by
 intro bc
 induction bc with
 |nil=>intro o r e _ c Q;have e:o=m:=e;rw[av5 U,av5 U]at c;cases c;rfl
 |cons p bc l=>
  intro o r e g c Q;obtain⟨n,h1,E,i⟩:=e;have H:=Pd _ _ _ i;rw[List.forIn_cons,g p Y];simp only[aJ];rw[E,Pb h1 U,Pb h1 U];have u:a.drop o=(a.drop o).take n++a.drop (o+n):=by rw[<- awb,axu]
  have v:b.drop o=(b.drop o).take n++b.drop (o+n):=by rw[<- awb,axu]
  rw[u,v]at c;obtain⟨j,w,z,A⟩:=Pa _ _ _ _ _ atB c;rw[k _ n _ _ j h1 atB atB w];cases j with
  |false=>have:=z rfl;subst this;rfl
  |true=>simp only[Bool.not_true,N2,if_false,aR];exact l (o+n) r i (λq B=>g q (by simp[B])) (A rfl) Q
def Pf{d:Nat}:∀(fs:List Field) (o n:Nat),zW (qE P d) fs o=C n->xO P d Field.type Field.offset fs o n/\∀f∈fs,f.name≠ "_"
 | [],o,n,h=>by simp only[zW,W6]at h;exact⟨h,Y⟩
 |f::fs,o,n,h=>by
  simp only[zW]at h;split at h
  .rename_i k i;cases hb:(td f.offset o&&f.name != "_")with
   |false=>rw[hb]at h;cases h
   |true=>
    rw[hb,cond_true]at h;simp only[vh,bne_iff_ne,ne_eq]at hb;obtain⟨a,b⟩:=Pf fs _ _ h;refine⟨⟨k,i,beq_eq hb.1,a⟩,λg c=> ?_⟩;rcases B4.1 c with e|e
    .subst e;exact hb.2
    .exact b g e
  .cases h
def Pg{d b n:Nat}(a:qE P d b=C n):∀(k i:Nat),xO P d (λ_=>b) (λi=>i*n) (awU i k) (i*n) ((i+k)*n)
 | 0,i=>by simp[xO]
 |k+1,i=>by rw[List.range'_succ];refine⟨n,a,rfl,?_⟩;have:=Pg a k (i+1);rw[Nat.succ_mul]at this;rw[(U:(i+(k+1))=(i+1+k))];exact this
def aak:∀(d D:Nat),d<=D->∀(t n:Nat) (x y:List o5) (r:Bool),qE P d t=C n->x.length=n->y.length=n->oQ x y=C r->∀Q,aH P (Op.equalIn D t (nJ P t x) (nJ P t y)) h Q=Q r h:=by
 intro d
 induction d with
 |zero=>intro D _ t n x y r e;cases e
 |succ d G=>
  intro D W t n x y r e A v j Q;obtain⟨D,rfl⟩:∃H,D=H+1:=⟨D- 1,U⟩;have E:=G D U;rw[qE]at e;rw[Op.equalIn];simp only[aJ,c0];have one:∀iK,P.underlying t=C iK->ui iK=q9->n=1->∃u w,x=[u]/\y=[w]/\nJ P t x=u/\nJ P t y=w/\vD u w=C r:=λiK h1 q F=>by
   subst F
   match x,y,A,v with
   | [u],[w],_,_=>
    refine⟨u,w,rfl,rfl,Hm h1 q _ _,Hm h1 q _ _,?_⟩;simp only[oQ]at j;cases hb:vD u w with
    |none=>rw[hb]at j;cases j
    |some c=>rw[hb]at j;cases c<;>simp at j<;>rw[j]
  split at e
  .rename_i k g;obtain⟨u,w,rfl,rfl,B,M,l⟩:=one _ g rfl (by cases e;rfl);rw[B,M,g];unfold vD at l;split at l
   .rename_i N a I b;cases hs:vC N I with
    |false=>rw[hs]at l;cases l
    |true=>rw[hs,cond_true,Co]at l;cases l;have:=He hs;subst this;simp only[if_true];rfl
   .cases l
  .rename_i R g;split at e
   .rename_i m X;cases z:P.stoodInHeld t with
    |true=>rw[z]at e;cases e
    |false=>
     rw[z,cond_false]at e;split at e
     .rename_i o K;cases hb:td o m with
      |false=>rw[hb]at e;cases e
      |true=>rw[hb,cond_true]at e;cases e;obtain⟨p,L⟩:=Pf _ _ _ K;rw[Ab g rfl,Ab g rfl,g];simp only[aJ,mq,z,N2,if_false];rw[<- Array.forIn_toList,Pe (d:=d) (D:=D) Field.type Field.offset x y n A v _ E R.toList 0 r p (λf e s=>by simp[L f e]) j];cases r<;>rfl
     .cases e
   .cases e
  .rename_i k S g;split at e
   .rename_i o bK m h1 q F;cases hb:(td o bK&&td (k*o) m)with
    |false=>rw[hb]at e;cases e
    |true=>
     rw[hb,cond_true]at e;simp only[vh]at hb;cases e;have B:=beq_eq hb.1;subst B;rw[Ab g rfl,Ab g rfl,g];simp only[aJ,gD,q];rw[aCX];have p:=Pg (P:=P) h1 k 0;rw[ayS,atI]at p;have e0:awU 0 (azQ [:k]) 1=awU 0 k:=by simp[azQ]
     show aH P (forIn (awU 0 (azQ [:k]) 1) _ _) h _=_;rw[e0,Pe (d:=d) (D:=D) (λ_=>S) (λi=>i*o) x y (k*o) A v _ E _ 0 r p (λf e s=>rfl) j];cases r<;>rfl
   .cases e
  .cases e
def Ph{ρ:aX}:∀{a e b bG:List o5} {r:Bool},cT ρ a e->cT ρ b bG->oQ a b=C r->oQ e bG=C r
 | [],_,[],_,r,.nil,.nil,h=>h
 | [],_,_::_,_,r,_,_,h=>by cases h
 |_::_,_,[],_,r,_,_,h=>by cases h
 |x::a,_,y::b,_,r,.cons i f,.cons g hb,h=>by
  simp only[oQ]at h ⊢;cases d:vD x y with
  |none=>rw[d]at h;cases h
  |some c=>
   have:∃j m k n,x=.int j m/\y=.int k n:=by
    unfold vD at d;split at d
    .exact⟨_,_,_,_,rfl,rfl⟩
    .cases d
   obtain⟨j,m,k,n,rfl,rfl⟩:=this;cases i;cases g;rw[d]at h ⊢;cases c with
   |true=>exact Ph f hb h
   |false=>exact h
section
variable{aQ:Nat}{ρ:aX}{H H':aE}{call:vb->List o5->aE->Option (o5×aE)}{e:cL}{v:o5}{K:o5->ae->Prop}
def Pj(S:cD P aQ ρ H.get H.an h){op:BinOp}{t n:ta}(d:Cl P t=C n){x y:su}{x' m:o5}(c:cy call e H (.bin op (.flat n) x y)=C (v,H'))(h1:bj ρ (bW e x) x')(p:bj ρ (bW e y) m)(k:fQ P aQ ρ H h v H' K):@al P _ (bN op t x y x' m) h ⟨K⟩:=by
 unfold Cl at d;cases g:P.eqGuardType P.depth t with
 |true=>rw[g]at d;cases d
 |false=>
  rw[g,cond_false]at d;cases i:ui ((P.underlying t).getD .invalid)with
  |false=>rw[i]at d;cases d
  |true=>
   rw[i,cond_true]at d;simp only[cy,tY]at c;split at c
   .rename_i a b w z;rw[w]at h1;rw[z]at p;cases f:(td a.length n&&td b.length n)with
    |false=>rw[f]at c;cases c
    |true=>
     rw[f,cond_true]at c;simp only[vh]at f;generalize B:x'=D at h1;generalize E:m=F at p;cases h1 with
     |agg q=>
      rename_i j;cases p with
      |agg s=>
       rename_i bG;split at c
       .rename_i r A;have key:∀Q:Bool->ae->Prop,aH P (Op.equal t (.agg ⟨j⟩) (.agg ⟨bG⟩)) h Q=Q r h:=λQ=>by
         have:=aak (P:=P) (h:=h) 6 10000 U t n j bG r d (by rw[q.length];exact beq_eq f.1) (by rw[s.length];exact beq_eq f.2) (Ph q s A) Q;have u:∀l,nJ P t l=.agg ⟨l⟩:=λl=>by simp[nJ,i]
         rw[u,u]at this;exact this
        have aT:∀(o:BinOp) (Q:Unit->ae->Prop),aH P (eqGuard o t x y (.agg ⟨j⟩) (.agg ⟨bG⟩)) h Q=Q () h:=λo Q=>by unfold eqGuard;cases o<;>simp[aR,aJ,mq,g]
        split at c
        .have:=nC c;cases this;simp only[al,bN,aJ,aT,binOp];simp only[key,aR];exact k.same S (.bool _)
        .have:=nC c;cases this;simp only[al,bN,aJ,aT,binOp];simp only[key,aR];exact k.same S (.bool _)
        .cases c
       .cases c
   .cases c
end
end
def qH(P:tb)(main:Bool){ai:Type}(Sy:Sys ai)(Jz:ai->Prop)(aQ:Nat)(call:vb->List o5->aE->Option (o5×aE)):Prop:=∀f b1 v H H',call f b1 H=C (v,H')->∀ρ h a s,cD P aQ ρ H.get H.an h->cT ρ b1 a->aQ<=H.an->Jz s->bz P f=J/\bo P main Sy f ⟨a⟩ s h λb h' c=>Jz b/\∃bq,cD P aQ bq H'.get H'.an h'/\bj bq v c/\gq H ρ h H' bq h'
section
variable{P:tb}{main:Bool}{ai:Type}{Sy:Sys ai}{Jz:ai->Prop}{aQ:Nat}{ρ:aX}{H H':aE}{h:ae}{call:vb->List o5->aE->Option (o5×aE)}{E:cL}{e:Env}{v:o5}{b:aS}{s:ai}{d:List Deferred}
 {N:Env->List Deferred->ai->ae->Prop}
def Cy{b1:List su}(b:∀x∈b1,bj ρ (bW E x) (aA e x)):cT ρ (xB E b1) (b1.map (aA e)):=by
 induction b1 with
 |nil=>exact .nil
 |cons a b1 c=>exact .cons (b a Y) (c λx d=>b x (by simp[d]))
def uq{o:Option su}(a:∀x∈o.toList,bj ρ (bW E x) (aA e x)):nE ρ E (aA e) o:=Z8 a
def Hn{o:Oper}(k:cy call E H (qF P o)=C (v,H'))(S:cD P aQ ρ H.get H.an h)(R:aQ<=H.an)(hJ:Jz s)(hC:qH P main Sy Jz aQ call)(u:∀x∈(qF P o).di,bj ρ (bW E x) (aA e x))
  (hN:∀W bq h' M,Jz W->cD P aQ bq H'.get H'.an h'->bj bq v M->gq H ρ h H' bq h'->N (b7 e o.dst M) d W h'):bP P main Sy b o e d s h N:=by
 have B:fQ P aQ ρ H h v H' λM h'=>N (b7 e o.dst M) d s h':=λbq h' M a1 a2 a3=>hN s bq h' M hJ a1 a2 a3;generalize g:qF P o=xo at k u;unfold qF at g;split at g
 .rename_i x w;subst g;simp only[bP,w,bA];simp only[cy,W6,at5]at k;obtain⟨rfl,rfl⟩:=k;exact B.same S (u x (by simp[dh.di]))
 .rename_i x w;subst g;simp only[bP,w,bA];simp only[cy,W6,at5]at k;obtain⟨rfl,rfl⟩:=k;exact B.same S (u x (by simp[dh.di]))
 .rename_i c x y w;subst g;simp only[bP,w,bA];exact ZD S k (u c (by simp[dh.di])) (u x (by simp[dh.di])) (u y (by simp[dh.di])) B
 .rename_i t w;simp only[bP,w];split at g
  .rename_i z Q;cases D:lC (eD z)with
   |false=>rw[D]at g;subst g;cases k
   |true=>
    rw[D,cond_true]at g;cases gG:zF t with
    |true=>rw[gG,cond_true]at g;subst g;cases k
    |false=>rw[gG,cond_false]at g;subst g;have:=ZE S R Q D k B;simp only[nv,gG];exact this
  .subst g;cases k
 .rename_i t x w;simp only[bP,w,bA];split at g
  .subst g;exact ZF S R k (u x (by simp[dh.di])) B
  .subst g;cases k
 .rename_i t bc w;simp only[bP,w];split at g
  .rename_i z l Q hl;cases D:(lC (eD z)&&Ck P t)with
   |false=>rw[D]at g;subst g;cases k
   |true=>rw[D,cond_true]at g;subst g;simp only[vh]at D;exact Z0 S Q hl D.2 D.1 k (λx k=>u x k) B
  .subst g;cases k
 .rename_i t n bc w;simp only[bP,w];split at g
  .rename_i L A;split at g
   .rename_i z m Q hs;cases D:(lC (eD z)&&td (eD z).length m&&vd 1 m&&vd (n*m) 10000)with
    |false=>rw[D]at g;subst g;cases k
    |true=>rw[D,cond_true]at g;subst g;exact Z1 S R A Q hs D k (λx k=>u x k) B
   .subst g;cases k
  .subst g;cases k
 .rename_i t x w;simp only[bP,w,bA];split at g
  .rename_i A;subst g;exact ZG S A k (u x (by simp[dh.di])) B
  .rename_i n A;subst g;exact ZH S A k (u x (by simp[dh.di])) B
  .subst g;cases k
 .rename_i t x y w;simp only[bP,w,bA];have hd:∀v,b7 e o.dst v=b7 e o.dst v:=λ_=>rfl;split at g
  .rename_i n A;subst g;exact ZI S A k (u x (by simp[dh.di])) (u y (by simp[dh.di])) B
  .subst g;cases k
 .rename_i x w;subst g;simp only[bP,w,bA];have:=ZJ S k (u x (by simp[dh.di])) B;refine sH (K:=⟨λan h=>∃M,an=.value M/\N (b7 e o.dst M) d s h⟩) (λan h q=> ?_) this;obtain⟨M,e1,e2⟩:=q;subst e1;exact e2
 .rename_i op t x y _ w;simp only[bP,w,bA];split at g
  .rename_i kk G;subst g;have h1:=u x (by simp[dh.di]);have X:=u y (by simp[dh.di]);unfold OE at G;split at G
   .cases G;exact ZL S k h1 X B
   .rename_i A;cases G;exact ZM S A k h1 X B
   .rename_i A;cases G;exact ZN S k h1 X B
   .rename_i L A;cases G;exact ZO S A k h1 X B
   .split at G
    .rename_i n hf;cases G;exact Pj S hf k h1 X B
    .cases G
   .split at G
    .rename_i n hf;cases G;exact Pj S hf k h1 X B
    .cases G
   .cases G
  .subst g;cases k
 .rename_i op t x w;subst g;simp only[bP,w,bA];exact ZP S k (u x (by simp[dh.di])) B
 .rename_i sT t x w;simp only[bP,w,bA];split at g
  .rename_i j kk hs A;subst g;have hv:=u x (by simp[dh.di]);obtain⟨k0,n0,e0⟩:=ZR k hv;have:=ZQ S hs A k hv B;rw[e0]at this ⊢;exact this
  .subst g;cases k
 .rename_i t x w;simp only[bP,w,bA];split at g
  .subst g;cases k
  .rename_i dd az A;subst g;exact ZS S A (λms e0=>by subst e0;exact az _ rfl) k (u x (by simp[dh.di])) B
  .subst g;cases k
 .rename_i f xs kG w;subst g;simp only[bP,w];simp only[cy,W6,at5]at k;obtain⟨rfl,rfl⟩:=k;exact B.same S (.func f (Cy λx k=>u x (by simp only[dh.di,D3];exact .inl k)) (Cy λx k=>u x (by simp only[dh.di,D3];exact .inr k)))
 .rename_i t w;subst g;simp only[bP,w,azR];exact ZT S R k B
 .rename_i t x y w;simp only[bP,w,bA];split at g
  .rename_i L A;split at g
   .rename_i z m bs Q hs hb;cases D:(lC (eD z)&&td (eD z).length m&&vd 1 m)with
    |false=>rw[D]at g;subst g;cases k
    |true=>rw[D,cond_true]at g;subst g;exact aag S R A Q hs hb D k (u x (by simp[dh.di])) (u y (by simp[dh.di])) B
   .subst g;cases k
  .subst g;cases k
 .rename_i t x lo hi aZ w;simp only[bP,w,bA];split at g
  .rename_i A;cases aZ with
   |some _=>subst g;cases k
   |none=>subst g;simp only[azR];exact Z9 S A k (u x (by simp[dh.di])) (uq λy F=>u y (by simp only[dh.di,B4,D3];exact .inr (.inl F))) (uq λy F=>u y (by simp only[dh.di,B4,D3];exact .inr (.inr F))) B
  .rename_i L A;split at g
   .rename_i n hs;cases D:((hi.isSome||aZ.isNone)&&vd 1 n)with
    |false=>rw[D]at g;subst g;cases k
    |true=>rw[D,cond_true]at g;subst g;rw[vh]at D;exact aab S A hs (fZ D.2) D.1 k (u x (by simp[dh.di])) (uq λy F=>u y (by simp only[dh.di,B4,D3];exact .inr (.inl F))) (uq λy F=>u y (by simp only[dh.di,B4,D3];exact .inr (.inr (.inl F)))) (uq λy F=>u y (by simp only[dh.di,B4,D3];exact .inr (.inr (.inr F)))) B
   .subst g;cases k
  .rename_i n L A;split at g
   .rename_i m hs;cases D:((hi.isSome||aZ.isNone)&&vd n 1000000)with
    |false=>rw[D]at g;subst g;cases k
    |true=>rw[D,cond_true]at g;subst g;rw[vh]at D;exact aaa S A hs D.1 D.2 k (u x (by simp[dh.di])) (uq λy F=>u y (by simp only[dh.di,B4,D3];exact .inr (.inl F))) (uq λy F=>u y (by simp only[dh.di,B4,D3];exact .inr (.inr (.inl F)))) (uq λy F=>u y (by simp only[dh.di,B4,D3];exact .inr (.inr (.inr F)))) B
   .subst g;cases k
  .subst g;cases k
 .rename_i t x i w;simp only[bP,w,bA];split at g
  .rename_i fs A;split at g
   .rename_i f hf;split at g
    .rename_i m hs;subst g;exact Z2 S A hf hs k (u x (by simp[dh.di])) B
    .subst g;cases k
   .subst g;cases k
  .subst g;cases k
 .rename_i t x y w;simp only[bP,w,bA];split at g
  .rename_i L A;split at g
   .rename_i n hs;subst g;exact Z3 S A hs k (u x (by simp[dh.di])) (u y (by simp[dh.di])) B
   .subst g;cases k
  .rename_i n L A;split at g
   .rename_i m hs;subst g;exact Z4 S A hs k (u x (by simp[dh.di])) (u y (by simp[dh.di])) B
   .subst g;cases k
  .subst g;cases k
 .rename_i t x y w;simp only[bP,w,bA];split at g
  .rename_i A;subst g;exact Z5 S A k (u x (by simp[dh.di])) (u y (by simp[dh.di])) B
  .rename_i n L A;split at g
   .rename_i I;split at g
    .rename_i m hs;subst g;exact OS S A hs (ag:=q9) (by simpa using I) k (u x (by simp[dh.di])) (u y (by simp[dh.di])) B
    .subst g;cases k
   .rename_i m I;subst g;have hs:cu P L=C m:=by
     unfold fS at I;unfold cu;split at I
     .cases I
     .split at I
      .rename_i i hi;cases I;rw[hi];rfl
      .cases I
     .split at I
      .rename_i i hi;cases I;rw[hi];rfl
      .cases I
     .cases I
    exact OS S A hs (ag:=J) (by simpa using I) k (u x (by simp[dh.di])) (u y (by simp[dh.di])) B
   .subst g;cases k
  .subst g;cases k
 .rename_i t x y kk w;simp only[bP,w,bA];split at g
  .rename_i kt L A;split at g
   .rename_i b5 z G Q;cases D:zU z with
    |false=>rw[D]at g;subst g;cases k
    |true=>rw[D,cond_true]at g;subst g;exact aad S A G Q D k (u x (by simp[dh.di])) (u y (by simp[dh.di])) B
   .subst g;cases k
  .subst g;cases k
 .rename_i t x y z w;simp only[bP,w,bA];split at g
  .rename_i kt L A;split at g
   .rename_i b5 G;subst g;exact aaf S A G k (u x (by simp[dh.di])) (u y (by simp[dh.di])) (u z (by simp[dh.di])) B
   .subst g;cases k
  .subst g;cases k
 .rename_i x i w;subst g;simp only[bP,w,bA];exact ZU S k (u x (by simp[dh.di])) B
 .rename_i f b1 dD w;subst g;simp only[bP,w];simp only[cy]at k;obtain⟨c1,c2⟩:=hC f _ _ _ _ k ρ h _ s S (Cy λx k=>u x k) R hJ;exact .inl ⟨c1,bo.mono (λW h' M ⟨q1,bq,q2,q3,q4⟩=>hN W bq h' M q1 q2 q3 q4) c2⟩
 .rename_i x b1 dD az w;subst g;have bt:∀f,x≠.func f:=λf e0=>az f e0;have bb:=u x (by simp[dh.di]);have b0:=Cy (e:=e) (λy F=>u y (by simp only[dh.di,B4];exact .inr F));have:bP P main Sy b o e d s h N=@bA _ _ (aA e x) ⟨λv=>@al P _ (rD v ((b1.toList.map (aA e)).toArray)) h ⟨λan h=>@qz P main _ Sy o.dst e d s ⟨N⟩ an h⟩⟩:=by
   cases x with
   |func f=>exact absurd rfl (bt f)
   |_=>simp only[bP,w]
  rw[this];simp only[bA];simp only[cy]at k;split at k
  .rename_i f a c he;rw[he]at bb;generalize ca:aA e x=xx at bb;cases bb with
   |func f I hc=>
    obtain⟨c1,c2⟩:=hC f _ _ _ _ k ρ h _ s S (I.append (b0.append hc)) R hJ;rw[zJ (K:=⟨λan h=>@qz P main _ Sy o.dst e d s ⟨N⟩ an h⟩) c1];have e1:∀(p q r:List o5),((⟨p⟩:Array o5)++q.toArray++⟨r⟩)=⟨p++(q++r)⟩:=λp q r=>by apply auT.1;simp
    rw[e1];exact bo.mono (λW h' M ⟨q1,bq,q2,q3,q4⟩=>hN W bq h' M q1 q2 q3 q4) c2
  .cases k
 .rename_i x t w;simp only[bP,w];split at g
  .rename_i A;subst g;exact ZW S A k (u x (by simp[dh.di])) B
  .rename_i L A;subst g;exact ZV S A k (u x (by simp[dh.di])) B
  .rename_i n L A;subst g;simp only[cy,W6,at5]at k;obtain⟨rfl,rfl⟩:=k;simp only[al,Builtin.len_,List.map_cons,List.map_nil,au1,au8,aJ,c0,A,aR];exact B.same S (.int _ _)
  .subst g;cases k
 .rename_i x y dD w;subst g;simp only[bP,w];exact Z6 S k (u x (by simp[dh.di])) (u y (by simp[dh.di])) B
 .rename_i x y t cU w;simp only[bP,w];split at g
  .rename_i L cc A b3;split at g
   .rename_i m bs z hs hb Q;cases D:(vd 1 m&&td (eD z).length m&&vd 1 bs)with
    |false=>rw[D]at g;subst g;cases k
    |true=>rw[D,cond_true]at g;subst g;exact aaj S R A b3 hs hb Q D k (u x (by simp[dh.di])) (u y (by simp[dh.di])) B
   .subst g;cases k
  .subst g;cases k
 .rename_i x y t dD w;simp only[bP,w];split at g
  .rename_i L A;split at g
   .rename_i m hs;subst g;exact aah S A hs k (u x (by simp[dh.di])) (u y (by simp[dh.di])) B
   .subst g;cases k
  .subst g;cases k
 .rename_i x t w;simp only[bP,w];split at g
  .rename_i L A;split at g
   .rename_i z Q;cases D:(lC (eD z)&&vd 1 (eD z).length)with
    |false=>rw[D]at g;subst g;cases k
    |true=>rw[D,cond_true]at g;subst g;exact aai (m:=0) S A Q D k (u x (by simp[dh.di])) B
   .subst g;cases k
  .subst g;cases k
 .subst g;cases k
end
end
end Go.Nk
