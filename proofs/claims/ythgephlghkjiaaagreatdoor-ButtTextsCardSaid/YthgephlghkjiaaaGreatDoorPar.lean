/- Part Par of the proof of ButtTexts: lemmas. -/
import Derived.Test.YthgephlghkjiaaaGreatDoorPaq
set_option maxRecDepth 100000
set_option maxHeartbeats 4000000
set_option linter.all false
namespace Go.Nk
noncomputable section
open Go Go.Conc Go.Proofs
open Bool renaming false->q9,true->J,false_ne_true->W3,and_eq_true->vh,true_and->awQ
open Go renaming Program->tb,TypeId->ta,Value->o5,Addr->vm,IntKind->E1,Deferred->tc,MapEntry->HP,Operand->su,Oper->sa
open Go.Builtin renaming len_->auf,max_->axn
open Go.Instr renaming storeAt->aub,indexAt->auX,fieldAt->at3,index->auG,sliceAt->K0,build->atW,makeInterface->auW
open Go.Proofs.Tryz renaming prog->pv,underlying211->aBW,f68->ax1,results50->ay8,results48->aAp
open Go.Region renaming schedule->atM
open Go.Value renaming cells->atN
open List renaming mem_append->D3,map_cons->atS,mem_of_getElem?->aum,all_eq_false->aAo,flatMap_cons->ax4,mem_append_right->aBX,all_eq_true->G0,any_eq_true->au2,all_cons->avv,length_cons->RF
open Option renaming none->o0,map_eq_some_iff->au5,some->C,isSome_iff_exists->aud
def Tv(x:dL):dL:= {x with own:=q9}
def tt(h:ae)(D:List Nat):ae:=λb=>if b∈D then(h b).map Tv else h b
def uI(h:ae)(D:List Nat):ae:=λb=>if b∈D then(h b).map Tv else o0
def ako(h:ae)(D:List Nat):Dh h (tt h D) (uI h D):=by
 refine⟨λb x a=> ?_,λb x a=> ?_,λb x a d=> ?_,λb x a d=> ?_⟩
 .unfold tt at a;split at a
  .obtain⟨y,c,rfl⟩:=au5.1 a;exact⟨y,c,rfl,λe=>by cases e⟩
  .exact⟨x,a,rfl,λe=>e⟩
 .unfold uI at a;split at a
  .obtain⟨y,c,rfl⟩:=au5.1 a;exact⟨y,c,rfl,λe=>by cases e⟩
  .cases a
 .unfold tt at a;split at a
  .obtain⟨y,c,rfl⟩:=au5.1 a;cases d
  .rename_i f;unfold uI;rw[if_neg f]
 .unfold uI at a;split at a
  .obtain⟨y,c,rfl⟩:=au5.1 a;cases d
  .cases a
def akp{h:ae}{D:List Nat}{b:Nat}{x:dL}(a:h b=C x):∃o,tt h D b=C ⟨x.obj,o⟩:=by
 unfold tt;split
 .exact⟨q9,by rw[a];rfl⟩
 .exact⟨x.own,a⟩
def akq{h:ae}{D:List Nat}{b:Nat}(a:b∉D):tt h D b=h b:=by unfold tt;rw[if_neg a]
def Tw{h:ae}{D:List Nat}{b:Nat}{x:dL}(a:b∈D)(c:h b=C x):uI h D b=C ⟨x.obj,q9⟩:=by unfold uI;rw[if_pos a,c];rfl
def EL(h h':ae):Prop:=∀b x,h b=C x->∃o,h' b=C ⟨x.obj,o⟩
def LO{P:tb}{h:ae}{t:ta}{b0:Nat}{v a:o5}{ty:ta}(hs:cu P t=C 1)(b:v.cells=#[v])(c:jG v=J)(hb:h b0=C ⟨.cells #[a] ty (0,0),J⟩)(K:ae->Prop):al P (aub t (.pointer (C ⟨b0,0,o0⟩)) v) h (K:=⟨λ_=>K⟩)=K (h.put b0 ⟨.cells #[v] ty (0,0),J⟩):=by
 have e:=lN hb;have key:al P (aub t (.pointer (C ⟨b0,0,o0⟩)) v) (h.put b0 ⟨.cells #[a] ty (0,0),J⟩) (K:=⟨λ_=>K⟩)=K (h.put b0 ⟨.cells #[v] ty (0,0),J⟩):=by rw[xE (K:=⟨_⟩) hs,b,(atz:((#[v]:Array o5).size==1)=J),show(#[v]:Array o5).toList=[v]from rfl,xF,c];simp only[zP];exact propext ⟨λq=>q.2,λq=>⟨rfl,q⟩⟩
 rw[e]at key;exact key
def akr:fw pv 58=C (.slice o0 0 0):=O
def Tx:cu pv 58=C 1:=O
def nM:fw pv 4=C (.bool q9):=O
def aks{h:ae}{a:Option vm}{n c:Nat}[K:KK o5]:al pv (auf #[211] 3 #[.slice a n c]) h=K.f (.int .i64 n) h:=uf (by first|exact aBW|kernel_rfl)
def akt{h:ae}{b a n c:Nat}{k:E1}{i:Int}[K:KK o5]:al pv (auX 211 (.slice (C ⟨b,a,o0⟩) n c) (.int k i)) h=((decide (0<=i)&&decide (i<n))=J/\K.f (.pointer (C ⟨b,a+i.toNat*1,o0⟩)) h):=Ch (by first|exact aBW|kernel_rfl) Tx
structure Ty(aI:ae)(c3 c4 c5 b fb bb ba bd:Nat)(bS:Int)(fC:FuncId)(fF arr:Array o5)(bc:Nat->Nat)(B:ae->Prop):Prop where
 c3:aI c3=C ⟨.cells #[.slice (C ⟨ba,0,o0⟩) 2 2,.slice (C ⟨bd,0,o0⟩) 2 2,.int .i64 20,.int .i64 1] 119 (0,0),J⟩
 c4:aI c4=C ⟨.cells #[.int .i64 bS] 3 (0,0),J⟩
 c5:aI c5=C ⟨.cells #[.func (.func fC) #[] fF] 135 (0,0),J⟩
 wx:aI b=C ⟨.cells arr 58 (0,0),J⟩
 aku:∀j,j<8->arr[j]? =C (.slice (C ⟨bc j,0,o0⟩) 1 1)
 bc:∀j,j<8->pN aI (bc j) (hY j) J
 akv:aI fb=o0
 akw:aI bb=o0
 ne:fb≠bb
 B:B aI
def wy(c3 c4 c5:Nat)(bc:Nat->Nat)(bl:List Nat):List Nat:=[c3,c4,c5]++(List.range 8).map bc++bl
def yB(N:Nat)(bS:Int)(nf:bX->bX->Int)(gf:bX->bX->Bool):Nat->List cV:=λi=>jB bS nf gf (hY (i- N)) 8
structure AP(aI:ae)(LP:List Nat)(N mu wg fb bb:Nat)(full:Nat->List cV)(j:Nat)(s:av)(h:ae):Prop where
 cE:EL aI h
 cP:∀b x,aI b=C x->b∉LP->h b=C x
 LQ:(j=0/\Kl s mu wg 8/\s.aG=N/\(∀b x,ks fb bb b=C x->h b=C x))\/(0<j/\jh s mu wg 8 (.eS q9) 0 (pK N fb bb) full N/\s.aG=N+j)
section
variable{os0:eI}{Post:o5->World->Prop}{s:av}{h aI:ae}{N mu wg fb bb c3 c4 c5 b ba bd k0 j:Nat}{fC:FuncId}{fF arr:Array o5}{bc:Nat->Nat}{nf:bX->bX->Int}{gf:bX->bX->Bool}{B:ae->Prop}{bl:List Nat}{bS:Int}
def akx{fb bb c:Nat}{x:dL}(h:ks fb bb c=C x):c=fb\/c=bb:=by
 unfold ks at h;split at h
 .exact .inl ‹_›
 .split at h
  .exact .inr ‹_›
  .cases h
def Tz{fb bb c:Nat}(h1:c≠fb)(a:c≠bb):ks fb bb c=o0:=by unfold ks;rw[if_neg h1,if_neg a]
def aky{h1:ae}{l:List Nat}{full:Nat->List cV}(Jz:AP aI l N mu wg fb bb full j s h)(p:j<8)(g:h.ar h1):bo pv J (SM 203 210 os0 Post) 96 #[aY wg,.int .i64 1] s h1 λe n v=>jh e mu wg 8 (.eS J) 0 (pK N fb bb) full N/\e.aG=N+j/\n=(if j=0 then h1.del (ks fb bb)else h1):=by
 rcases Jz.LQ with⟨rfl,D,d,i⟩|⟨t,a,d⟩
 .refine Lh D.m.aG D.m.on λ_ c=> ?_;have k:(h1.del (ks fb bb)) wg=o0:=by rw[D.m.wg]at c;unfold ae.del;split;rfl;exact c
  refine(SN (s:=s) (h:=h1) (mu:=mu) (wg:=wg) (b0:=8) (N:=N) (I:=pK N fb bb) (full:=full) (h1:=h1.del (ks fb bb)) (λK f=> ?_) k U).mono λe h' v q=>⟨q.1,by rw[q.2.1,d];rfl,by rw[if_pos rfl];exact q.2.2⟩;exact ag5 D (λb x o=>g _ _ (i b x o)) (afc _ _) (pK.start N fb bb) λγ a h1=>f γ (by rw[d]at a;exact a) h1
 .refine Lh a.m.aG a.m.on λ_ c=> ?_;rw[a.m.wg]at c;refine(SN (s:=s) (h:=h1) (mu:=mu) (wg:=wg) (b0:=8) (N:=N) (I:=pK N fb bb) (full:=full) (h1:=h1) (λK f=> ?_) c U).mono λe h' v q=>⟨q.1,by rw[q.2.1,d],by rw[if_neg U];exact q.2.2⟩;exact Kj (.inl rfl) rO a.m Y λγ r u M=>f γ (a.mk' r (by simpa[deafBehind]using M)) r.aG
def akz{e:Env}(Cz:Ty aI c3 c4 c5 b fb bb ba bd bS fC fF arr bc B)(bh:∀i,uH q9 (dY 203 210 os0 Post i) B fC fF nf gf)
  (sub:∀h h',B h->(∀b∈bl,∀x,h b=C x->∃o,h' b=C ⟨x.obj,o⟩)->B h') (b3:1<=bS)
  (Jz:AP aI (wy c3 c4 c5 bc bl) N mu wg fb bb (yB N bS nf gf) j s h) (d:j<8)
  (e3:e 3=aY c3) (e4:e 4=aY c4) (e5:e 5=aY c5) (M:e 8=aY mu) (m:e 9=aY wg) (P:e 10=aY bb) (Q:e 11=aY fb) (R:e 15=.slice (C ⟨b,0,o0⟩) 8 k0) (n:e 17=.int .i64 j) {p:eM->Env->List tc->av->ae->Prop}
  (kk:∀e' G h',AP aI (wy c3 c4 c5 bc bl) N mu wg fb bb (yB N bS nf gf) (j+1) G h'->(∀t,t<13\/t=15\/t=16->e' t=e t)->e' 17=.int .i64 (j+1:Nat)->p .cx e' [] G h'):
  cB pv J (SM 203 210 os0 Post) 27 (fE 58) AO p e [] s h:=by
 obtain⟨oa,S⟩:=Jz.cE _ _ Cz.wx;have W:∀(bb:aS) (K:av->ae->o5->Prop),@eX pv J _ (SM 203 210 os0 Post) bb 58 (.pointer (C ⟨b,0+(j:Int).toNat*1,o0⟩)) s h ⟨K⟩=K s h (.slice (C ⟨bc j,0,o0⟩) 1 1):=λbb K=>jK (K:=⟨K⟩) Au (A:=⟨b,0+(j:Int).toNat*1,o0⟩) S rfl (by have:=Cz.aku j d;simpa using this);have X:(decide ((0:Int)<=(j:Int))&&decide ((j:Int)<8))=J:=atB
 simp only[aO,seval,akb,aka,aj9,R,n,akt,W,X,true_and];rw[vX (K:=⟨_⟩) akr];intro c hc;rw[show(Value.slice o0 0 0).cells=#[.slice o0 0 0]from rfl];have ab:∀K:ae->Prop,al pv (aub 58 (.pointer (C ⟨c,0,o0⟩)) (.slice (C ⟨bc j,0,o0⟩) 1 1)) (h.put c ⟨.cells #[.slice o0 0 0] 58,J⟩) (K:=⟨λ_=>K⟩)=K ((h.put c ⟨.cells #[.slice o0 0 0] 58,J⟩).put c ⟨.cells #[.slice (C ⟨bc j,0,o0⟩) 1 1] 58 (0,0),J⟩):=λK=>LO Tx rfl rfl cI K;simp only[aO,seval,ab,oS];generalize r:h.put c ⟨.cells #[.slice (C ⟨bc j,0,o0⟩) 1 1] 58 (0,0),J⟩=h1;have u:h.ar h1:=by rw[<- r];exact gW hc
 have v:h1 c=C ⟨.cells #[.slice (C ⟨bc j,0,o0⟩) 1 1] 58 (0,0),J⟩:=by rw[<- r,cI]
 simp only[aO,seval,aj8,m];refine .inl ⟨aiP,(aky Jz d u).mono λs2 h2 v2 q=> ?_⟩;obtain⟨B2,af,w⟩:=q;have ag:h2 c=C ⟨.cells #[.slice (C ⟨bc j,0,o0⟩) 1 1] 58 (0,0),J⟩:=by
  rw[w];split
  .rename_i b5;rcases Jz.LQ with⟨_,_,_,hg⟩|⟨h0,_⟩
   .unfold ae.del;cases hq:ks fb bb c with
    |none=>exact v
    |some y=>rw[hg c y hq]at hc;cases hc
   .omega
  .exact v
 have z:∀x y,aI x=C y->h2 x=h x:=λx y a=>by
  obtain⟨o,f⟩:=Jz.cE x y a;have H:h1 x=h x:=(u _ _ f).trans f.symm;rw[w];split
  .have bK:x≠fb:=λe=>by subst e;rw[Cz.akv]at a;cases a
   have bR:x≠bb:=λe=>by subst e;rw[Cz.akw]at a;cases a
   unfold ae.del;rw[Tz bK bR];exact H
  .exact H
 have E:EL aI h2:=λx y a=>by rw[z x y a];exact Jz.cE x y a
 simp only[aO,seval,aj7,e3,e4,e5,M,m,P,Q];generalize l:[c3,c4,c5,c,bc j]++bl=D;have g:∀x,x∈[c3,c4,c5,c,bc j]->x∈D:=λx a=>by rw[<- l];exact D3.2 (.inl a)
 have inl:∀x,x∈bl->x∈D:=λx a=>by rw[<- l];exact D3.2 (.inr a)
 refine ag7 (cap:=qP wg c3 c c4 c5 mu fb bb) (h0:=tt h2 D) (hc:=uI h2 D) B2 U U (ako h2 D) (λγ I i1 i2 i3 i4 i5 i6=> ?_) λγ B3 b6=> ?_
 .have k:∀x∈D,∀y,aI x=C y->uI h2 D x=C ⟨y.obj,q9⟩:=λx a y f=>by obtain⟨o,q⟩:=E x y f;exact Tw (x:=⟨y.obj,o⟩) a q
  refine ajY (JS d) (bh s2.aG) (sub _ _ Cz.B λx a y f=>⟨_,k x (inl x a) y f⟩) i3 i4 (by rw[i1,i5]) Cz.ne ?_ (by rw[i2,af];show jB bS nf gf (hY (N+j- N)) 8=_;rw[Nat.add_sub_cancel_left]) ⟨⟨_,_,_,_,_,_,_,k c3 (g _ Y) _ Cz.c3⟩,⟨_,_,_,Tw (g _ Y) ag,k (bc j) (g _ Y) _ (Cz.bc j d)⟩,⟨_,k c4 (g _ Y) _ Cz.c4⟩,_,k c5 (g _ Y) _ Cz.c5⟩ I I.df;have:gr 0 [hY j]<=1:=by
   match j,d with
   | 0,_|1,_|2,_|3,_|4,_|5,_|6,_|7,_=>decide
   |j+8,d=>omega
  omega
 .simp only[aO,undef,seval,aj6,n,sJ];have hw:IntKind.i64.wrap ((j:Int)+1)=((j+1:Nat):Int):=by
   match j,d with
   | 0,_|1,_|2,_|3,_|4,_|5,_|6,_|7,_=>rfl
   |j+8,d=>omega
  refine kk _ γ (tt h2 D) ⟨λx y a=> ?_,λx y a F=> ?_,.inr ⟨U,B3,U⟩⟩ (λt ht=> ?_) (by simp[aL,hw])
  .obtain⟨o,q⟩:=E x y a;exact akp (x:=⟨y.obj,o⟩) q
  .have nD:x∉D:=λL=>by
    rw[<- l]at L;apply F;unfold wy;rcases D3.1 L with q|q
    .simp only[List.mem_cons,List.not_mem_nil,or_false]at q;rcases q with rfl|rfl|rfl|rfl|rfl
     .simp
     .simp
     .simp
     .obtain⟨o,q⟩:=Jz.cE x y a;rw[hc]at q;cases q
     .exact D3.2 (.inl (D3.2 (.inr (List.mem_map.2 ⟨j,by simpa using d,rfl⟩))))
    .exact D3.2 (.inr q)
   rw[akq nD,z x y a];exact Jz.cP x y a F
  .simp only[aL];rw[if_neg U,if_neg U,if_neg U,if_neg U,if_neg U,if_neg U,if_neg U]
end
section
variable{main:Bool}{ai:Type}{Sy:Sys ai}{s:ai}{h:ae}{b:aS}
def akA{e:Env}{d:List tc}{N:Env->List tc->ai->ae->Prop}{bb fb c6 p k:Nat}{n:Int}{u w:o5}{o1 o2:Bool}(e6:e 6=aY c6)(E:e 10=aY bb)(F:e 11=aY fb)(bK:bb≠c6)(bR:fb≠c6)
  (Q:h c6=C ⟨.cells #[u,w] 131 (0,0),J⟩) (hb:h bb=C ⟨.cells #[.slice (C ⟨p,0,o0⟩) 2 k,.int .i64 n] 131 (0,0),o1⟩) (G:h fb=C ⟨.cells #[.bool J] 4 (0,0),o2⟩)
  (kk:∀e' h',(∀b x,b≠c6->h b=C x->h' b=C x)->h' c6=C ⟨.cells #[.slice (C ⟨p,0,o0⟩) 2 k,.int .i64 n] 131 (0,0),J⟩->e' 6=aY c6->e' 7=.bool J->N e' d s h') (t:Nat):
  fO pv main Sy b yA.toArray (atM (pv.follows .mixedOrders) yA.toArray t) e d s h N:=by
 refine LN (l:=yA) rfl rfl eR 2 (λc i v h=>match i with
   | 0=>v=.agg #[.slice (C ⟨p,0,o0⟩) 2 k,.int .i64 n]
   | 1=>v=.bool J
   | 3=>v=.bool J
   |_=>True) (λc i v h h' _ q=>by match i with|0=>exact q|1=>exact q|2=>trivial|3=>exact q|i+4=>trivial)
  (λ_ j=>j=s) (λh h'=>h'=h.put c6 ⟨.cells #[.slice (C ⟨p,0,o0⟩) 2 k,.int .i64 n] 131 (0,0),J⟩)
  (λc h'=>(∀b x,b≠c6->h b=C x->h' b=C x)/\h' c6=C ⟨.cells (if c then #[.slice (C ⟨p,0,o0⟩) 2 k,.int .i64 n]else #[u,w]) 131 (0,0),J⟩)
  (λc h1 R le ⟨m,y⟩=>⟨λb x hb a=>le _ _ (m b x hb a),le _ _ y⟩)
  (λh1 R ⟨m,y⟩ e=>by subst e;exact⟨λb x hb a=>by rw[bx hb];exact m b x hb a,by rw[cI];rfl⟩)
  ⟨λb x hb a=>a,by simpa using Q⟩
  (λi v h h' _ q=>by match i with|0=>exact q|1=>exact q|2=>trivial|3=>exact q|i+4=>trivial) rfl ?_ ?_ t
 .intro i o hi e' j h1 c g f r H D;have r:j=s:=r;subst r;obtain⟨B,S⟩:=g;have I:e' 6=aY c6:=by rw[f 6 rfl,e6]
  have L:e' 10=aY bb:=by rw[f 10 rfl,E]
  have M:e' 11=aY fb:=by rw[f 11 rfl,F]
  match i,hi with
  | 0,hi=>cases hi;simp only[bP,gJ,aO,seval,L,aY];rw[Ex (K:=⟨_⟩) AH (B _ _ bK hb)];exact⟨rfl,_,rfl,rfl,λ_ _ e=>e,rfl⟩
  | 1,hi=>cases hi;simp only[bP,gJ,aO,seval,M,aY];rw[jK (K:=⟨_⟩) Lj (A:=⟨fb,0,o0⟩) (B _ _ bR G) rfl rfl];exact⟨rfl,_,rfl,rfl,λ_ _ e=>e,rfl⟩
  | 2,hi=>cases hi;have hc:=H rfl;subst hc;have W:e' 25=.agg #[.slice (C ⟨p,0,o0⟩) 2 k,.int .i64 n]:=D 0 25 rfl rfl;simp only[bP,gJ,aO,seval,I,W,aY];rw[Li Lk S];exact⟨rfl,_,rfl,rfl,rfl,trivial⟩
  | 3,hi=>cases hi;have X:e' 26=.bool J:=D 1 26 rfl rfl;simp only[bP,gJ,aO,seval,X];exact⟨trivial,_,rfl,trivial,λ_ _ e=>e,rfl⟩
  |i+4,hi=>simp[yA]at hi
 .intro e' j h1 g f P z;subst z;exact kk e' h1 g.1 (by simpa[yA]using g.2) (by rw[f 6 rfl,e6]) (P 3 7 rfl)
end
def akB:fS pv 26=C o0:=O
def LR:cu pv 51=C 4:=O
def fe:cu pv 3=C 1:=O
def eZ:fw pv 3=C (.int .i64 0):=O
section
variable{h:ae}{m o:Nat}[K:KK o5]
def akC:al pv (at3 137 (.pointer (C ⟨m,0,o0⟩)) 0) h=K.f (.pointer (C ⟨m,0,o0⟩)) h:=m1 (ft:=29) (m:=1) (i:=0) Tryz.underlying137 rfl rfl O
def akD:al pv (at3 29 (.pointer (C ⟨m,0,o0⟩)) 0) h=K.f (.pointer (C ⟨m,0,o0⟩)) h:=m1 (ft:=26) (m:=0) (i:=0) Tryz.underlying29 rfl rfl O
def akE:al pv (at3 51 (.pointer (C ⟨m,o,o0⟩)) 3) h=K.f (.pointer (C ⟨m,o+3,o0⟩)) h:=by rw[m1 (ft:=3) (m:=0) (i:=3) Tryz.underlying51 rfl rfl O,kU];rfl
def akF{b a n c:Nat}{k:E1}{i:Int}:al pv (auX 26 (.slice (C ⟨b,a,o0⟩) n c) (.int k i)) h=((decide (0<=i)&&decide (i<n))=J/\K.f (.pointer (C ⟨b,a+i.toNat*4,o0⟩)) h):=Ch Tryz.underlying26 LR
def akG{a:Option vm}{n c:Nat}:al pv (auf #[44] 3 #[.slice a n c]) h=K.f (.int .i64 n) h:=uf Tryz.underlying44
end
section
variable{main:Bool}{ai:Type}{Sy:Sys ai}{s:ai}{h:ae}{b:aS}
def akH{e:Env}{d:List tc}{N:Env->List tc->ai->ae->Prop}{c10 gb stb ns dq:Nat}{arr:Array o5}{x:o5}{a k q:Int}{o1 o2:Bool}(e2:e 2=aY gb)(G:e 10=aY c10)(H:e 11=.int .i64 k)(ab:h c10=C ⟨.cells #[.int .i64 a] 3 (0,0),J⟩)
  (I:h gb=C ⟨.cells #[.slice (C ⟨stb,0,o0⟩) ns dq,x] 137 (0,0),o1⟩) (L:h stb=C ⟨.cells arr 51 (0,0),o2⟩) (M:0<=k) (P:k<ns) (Q:arr[k.toNat*4+3]? =C (.int .i64 q)) (hw:IntKind.i64.wrap (a+q)=a+q)
  (aQ:gb≠c10) (R:stb≠c10)
  (kk:∀e' h',wu c10 h h'->h' c10=C ⟨.cells #[.int .i64 (a+q)] 3 (0,0),J⟩->N e' d s h') (t:Nat):
  fO pv main Sy b yx.toArray (atM (pv.follows .mixedOrders) yx.toArray t) e d s h N:=by
 refine LN (l:=yx) rfl rfl eR 9 (λc i v h=>match i with
   | 0=>∃z,v=.int .i64 z/\(c=q9->z=a)
   | 1=>v=aY gb
   | 2=>v=aY gb
   | 3=>v=.slice (C ⟨stb,0,o0⟩) ns dq
   | 4=>v=.int .i64 k
   | 5=>v=.pointer (C ⟨stb,0+k.toNat*4,o0⟩)
   | 6=>v=.pointer (C ⟨stb,0+k.toNat*4+3,o0⟩)
   | 7=>v=.int .i64 q
   | 8=>∃z,v=.int .i64 z/\(c=q9->z=a+q)
   |_=>True) (λc i v h h' _ q=>by match i with|0=>exact q|1=>exact q|2=>exact q|3=>exact q|4=>exact q|5=>exact q|6=>exact q|7=>exact q|8=>exact q|i+9=>trivial)
  (λ_ n=>n=s) (λh h'=>h'=h.put c10 ⟨.cells #[.int .i64 (a+q)] 3 (0,0),J⟩)
  (λc h'=>wu c10 h h'/\h' c10=C ⟨.cells #[.int .i64 (if c then a+q else a)] 3 (0,0),J⟩)
  (λc h1 h2 le ⟨r,B⟩=>⟨λb x hb j=>le _ _ (r b x hb j),le _ _ B⟩)
  (λh1 h2 ⟨r,B⟩ e=>by subst e;exact⟨λb x hb j=>by rw[bx hb];exact r b x hb j,by rw[cI];rfl⟩)
  ⟨λb x hb j=>j,by simpa using ab⟩
  (λi v h h' _ q=>by match i with|0=>exact(by obtain⟨z,q,_⟩:=q;exact⟨z,q,λe=>by cases e⟩)|1=>exact q|2=>exact q|3=>exact q|4=>exact q|5=>exact q|6=>exact q|7=>exact q|8=>exact(by obtain⟨z,q,_⟩:=q;exact⟨z,q,λe=>by cases e⟩)|i+9=>trivial) rfl ?_ ?_ t
 .intro i o hi e' n h1 c m p u S f;have u:n=s:=u;subst u;obtain⟨D,F⟩:=m;have W:e' 2=aY gb:=by rw[p 2 rfl,e2]
  have E:e' 10=aY c10:=by rw[p 10 rfl,G]
  have X:e' 11=.int .i64 k:=by rw[p 11 rfl,H]
  match i,hi with
  | 0,hi=>cases hi;simp only[bP,gJ,aO,seval,E,aY];rw[jK (K:=⟨_⟩) wh (A:=⟨c10,0,o0⟩) F rfl rfl];exact⟨rfl,_,rfl,rfl,λ_ _ e=>e,_,rfl,λe=>by rw[e];rfl⟩
  | 1,hi=>cases hi;simp only[bP,gJ,aO,seval,W,aY,akC];exact⟨trivial,_,rfl,trivial,λ_ _ e=>e,rfl⟩
  | 2,hi=>cases hi;have g:e' 35=aY gb:=f 1 35 rfl rfl;simp only[bP,gJ,aO,seval,g,aY,akD];exact⟨trivial,_,rfl,trivial,λ_ _ e=>e,rfl⟩
  | 3,hi=>cases hi;have g:e' 36=aY gb:=f 2 36 rfl rfl;simp only[bP,gJ,aO,seval,g,aY];rw[jK (K:=⟨_⟩) akB (A:=⟨gb,0,o0⟩) (D _ _ aQ I) rfl rfl];exact⟨rfl,_,rfl,rfl,λ_ _ e=>e,rfl⟩
  | 4,hi=>cases hi;simp only[bP,gJ,aO,seval,X];exact⟨trivial,_,rfl,trivial,λ_ _ e=>e,rfl⟩
  | 5,hi=>
   cases hi;have g:e' 37=.slice (C ⟨stb,0,o0⟩) ns dq:=f 3 37 rfl rfl;have y:e' 38=.int .i64 k:=f 4 38 rfl rfl;have hb:(decide (0<=k)&&decide (k<ns))=J:=by simp[M,P]
   simp only[bP,gJ,aO,seval,g,y,akF,hb];exact⟨trivial,trivial,_,rfl,trivial,λ_ _ e=>e,rfl⟩
  | 6,hi=>cases hi;have g:e' 39=.pointer (C ⟨stb,0+k.toNat*4,o0⟩):=f 5 39 rfl rfl;simp only[bP,gJ,aO,seval,g,akE];exact⟨trivial,_,rfl,trivial,λ_ _ e=>e,rfl⟩
  | 7,hi=>cases hi;have g:e' 40=.pointer (C ⟨stb,0+k.toNat*4+3,o0⟩):=f 6 40 rfl rfl;simp only[bP,gJ,aO,seval,g];rw[jK (K:=⟨_⟩) wh (A:=⟨stb,0+k.toNat*4+3,o0⟩) (D _ _ R L) rfl (by simpa using Q)];exact⟨rfl,_,rfl,rfl,λ_ _ e=>e,rfl⟩
  | 8,hi=>cases hi;obtain⟨z,g,w⟩:=(show ∃z,e' 34=.int .i64 z/\(c=q9->z=a)from f 0 34 rfl rfl);have y:e' 41=.int .i64 q:=f 7 41 rfl rfl;simp only[bP,gJ,aO,seval,g,y,sJ];exact⟨trivial,_,rfl,trivial,λ_ _ e=>e,_,rfl,λe=>by rw[w e,hw]⟩
  | 9,hi=>cases hi;have hc:=S rfl;subst hc;obtain⟨z,g,w⟩:=(show ∃z,e' 42=.int .i64 z/\(q9=q9->z=a+q)from f 8 42 rfl rfl);rw[w rfl]at g;simp only[bP,gJ,aO,seval,E,g,aY];rw[LO fe rfl rfl F];exact⟨rfl,_,rfl,rfl,rfl,trivial⟩
  |i+10,hi=>simp[yx]at hi
 .intro e' n h1 m p fc z;subst z;exact kk e' h1 m.1 (by simpa[yx]using m.2)
end
def kZ(n:Nat)(e:Env):Env:=λt=>if t<n then e t else undef
def TA{n:Nat}{e:Env}:iR n ⟨Array.ofFn (n:=n) λi=>e i,[]⟩ (kZ n e):=by
 refine⟨Y,λt=> ?_⟩;rw[Array.getD_eq_getD_getElem?];unfold kZ;by_cases a:t<n
 .rw[Array.getElem?_eq_getElem (by simpa using a),if_pos a];simp
 .rw[Array.getElem?_eq_none (by simpa using a),if_neg a];rfl
def akI:bz pv 106=J:=O
def cq{x:Int}(h1: -100000<=x)(a:x<=100000):IntKind.i64.wrap x=x:=by simp only[IntKind.wrap,IntKind.bits,IntKind.signed];simp;omega
def akJ{h:ae}{b:Int}[K:KK o5]:al pv (axn #[3,3] 3 #[.int .i64 0,.int .i64 b]) h=K.f (.int .i64 (max 0 b)) h:=by
 simp only[al,axn,List.foldlM_cons,List.foldlM_nil,Builtin.max2,aJ,aR];by_cases hb:b>0
 .simp only[hb,if_true];rw[Int.max_eq_right (Int.le_of_lt hb)]
 .simp only[hb,if_false];rw[Int.max_eq_left U]
section
variable{main:Bool}{ai:Type}{Sy:Sys ai}{s:ai}{h:ae}{b:aS}
def akK{mb:Nat}:bo pv main Sy 106 #[.map (C mb)] s h λa h' v=>a=s/\h.ar h'/\∃cm,v=.func (.func 153) #[] #[aY cm]/\h' cm=C ⟨.cells #[.map (C mb)] 218 (0,0),J⟩:=by refine bL (n:=4) (args:=[.map (C mb)]) Tryz.func106 ajK rfl Y ajL ?_;simp only[aO,seval,ajJ,ajI,vJ];intro c hc;refine bu Tryz.results106 Y ?_;exact⟨rfl,gW hc,c,by simp[aL,aY],cI⟩
structure akL(es:Array HP)(ck ns:Nat)(arr:Array o5)(kE sE:HP->Int):Prop where
 born:∀e∈es,e.born<ck
 fP:(es.toList.map (·.born)).Nodup
 key:∀e∈es,e.key=.int .i64 (kE e)
 k0:∀e∈es,0<=kE e/\kE e<ns
 val:∀e∈es,arr[(kE e).toNat*4+3]? =C (.int .i64 (sE e))
 aP:∀e∈es,0<=sE e
 top:jM sE es.toList<=1000
def akM{e:Env}{gb stb ns dq mb ck n c:Nat}{a:Option vm}{arr:Array o5}{x:o5}{o1 o2 o3:Bool}{es:Array HP}{kE sE:HP->Int}{gQ:ai->ae->o5->Prop}(e1:e 1=.slice a n c)(e2:e 2=aY gb)(e5:e 5=.map (C mb))
  (D:h gb=C ⟨.cells #[.slice (C ⟨stb,0,o0⟩) ns dq,x] 137 (0,0),o1⟩) (E:h stb=C ⟨.cells arr 51 (0,0),o2⟩) (bp:h mb=C ⟨.map es ck,o3⟩) (d:akL es ck ns arr kE sE) (hn:n<=1000)
  (po:∀h',h.ar h'->gQ s h' (.int .i64 (max 0 ((n:Int)- jM sE es.toList)))):
  cB pv main Sy 48 (fE 68) AJ (λx=>match x with|.ext _=>λ_ _ _ _=>False|_=>dT pv ax1 gQ 48) e [] s h:=by
 simp only[aO,seval,ajs,ajr,ajq];rw[vX (K:=⟨_⟩) eZ];intro c10 a6;rw[show(Value.int .i64 0).cells=#[.int .i64 0]from rfl];have b0:∀K:ae->Prop,al pv (aub 3 (.pointer (C ⟨c10,0,o0⟩)) (.int .i64 0)) (h.put c10 ⟨.cells #[.int .i64 0] 3,J⟩) (K:=⟨λ_=>K⟩)=K ((h.put c10 ⟨.cells #[.int .i64 0] 3,J⟩).put c10 ⟨.cells #[.int .i64 0] 3 (0,0),J⟩):=λK=>LO fe rfl rfl cI K;simp only[aO,seval,b0,oS,e5];generalize a7:h.put c10 ⟨.cells #[.int .i64 0] 3 (0,0),J⟩=h1;have F:h.ar h1:=by rw[<- a7];exact gW a6
 have ad:h1 c10=C ⟨.cells #[.int .i64 0] 3 (0,0),J⟩:=by rw[<- a7,cI]
 refine .inl ⟨akI,(akK (main:=main) (Sy:=Sy) (s:=s) (h:=h1) (mb:=mb)).mono λs2 p v2 q=> ?_⟩;obtain⟨rfl,G,cm,rfl,b3⟩:=q;simp only[aO,seval,ajp,ajo];refine Rv (x:=#[]) (y:=#[aY cm]) ajW rfl Y (by simp[aL,aA]) ?_;refine JM λr R l S o=> ?_;generalize g:({state:=.ready,pending:=o0,fn:=68,tmps:=_,params:=#[33],assign:=EC,body:=AK,defers:=r}:Loop)=L;have L1:L.state=.ready:=by rw[<- g]
 have L2:L.pending=o0:=by rw[<- g]
 have L3:L.fn=68:=by rw[<- g]
 have L4:L.params=#[33]:=by rw[<- g]
 have L5:L.assign=EC:=by rw[<- g]
 have L6:L.body=AK:=by rw[<- g]
 generalize H:(upd _ 32 _:Env)=u at g ⊢;have w1:u 1=.slice a n c:=by rw[<- H];simp[aL,e1]
 have w2:u 2=aY gb:=by rw[<- H];simp[aL,e2]
 have ba:u 10=aY c10:=by rw[<- H];simp[aL,aY]
 have L7:iR 48 ⟨L.tmps,[]⟩ (kZ 48 u):=by rw[<- g];exact TA
 clear g H;have W:p.ar ((p.put r ⟨.deferred (C []),J⟩).put l ⟨.loop L,J⟩):=le_trans (gW R) (gW (by rw[bx S];exact o));generalize eh:(p.put r ⟨.deferred (C []),J⟩).put l ⟨.loop L,J⟩=h3 at W ⊢;have w:h3 l=C ⟨.loop L,J⟩:=by rw[<- eh,cI]
 have af:h3 r=C ⟨.deferred (C []),J⟩:=by rw[<- eh,bx (Ne.symm S),cI]
 have I:=le_trans G W;have M:=le_trans F I;have B:∀y z,h y=C z->y≠c10:=λy z f e=>by subst e;rw[a6]at f;cases f
 have m:l≠c10:=λe=>by subst e;rw[I _ _ ad]at w;cases w
 have nr:r≠c10:=λe=>by subst e;rw[I _ _ ad]at af;cases af
 refine bo.mono (λs' h' v q=> ?_) (ajX (main:=main) (Sy:=Sy) (s:=s2) (l:=l) (cm:=cm) (mb:=mb) (ck:=ck) (c10:=c10) (sE:=sE) (kE:=kE) (total:=jM sE es.toList) w L4 (W _ _ b3) (M _ _ bp) d.born d.fP d.key (I _ _ ad) rfl (λh4 bl i N j hc hb=> ?_) d.aP)
 .obtain⟨rfl,j,hc⟩:=q;rw[JL (j l _ m w) L1];refine⟨L2,?_⟩;have cc:∀(b:aS) (K:ai->ae->o5->Prop),@eX pv main _ Sy b 3 (.pointer (C ⟨c10,0,o0⟩)) s' (h'.put l ⟨.loop {L with state:=.exhausted},J⟩) ⟨K⟩=K s' (h'.put l ⟨.loop {L with state:=.exhausted},J⟩) (.int .i64 (jM sE es.toList)):=λb K=>jK (K:=⟨K⟩) wh (A:=⟨c10,0,o0⟩) (by rw[bx (Ne.symm m)];exact hc) rfl rfl;simp only[aO,seval,ajk,w1,ba,aY,akG,cc,xA,akJ];have cl:r≠l:=Ne.symm S;show jU pv [{target:=.collected r,args:=#[]}] _ _;simp only[jU];refine Ez (by rw[bx cl];exact j r _ nr af) λQ k6=>⟨rfl,?_⟩;refine(bu (P:=pv) (fn:=ax1) (t:=4) (n:=48) (Post:=gQ) Tryz.results68 U ?_:dT pv ax1 gQ 48 _ [] s' Q);have hs:=d.aP;have ea:0<=jM sE es.toList:=by
   have key:∀l:List HP,(∀e∈l,0<=sE e)->0<=jM sE l:=by
    intro l
    induction l with
    |nil=>intro _;simp[jM]
    |cons c l ih=>intro hh;have h1:=hh c Y;have p:=ih λe he=>hh e (by simp[he]);simp only[jM,atS,List.sum_cons]at p ⊢;omega
   exact key _ λe he=>hs e (by simpa using he)
  have c6:=d.top;rw[cq U U];simp only[aL,Nat.reduceEqDiff,if_true,if_false];refine po Q λy z f=> ?_;have bK:y≠l:=λe=>by subst e;rw[G _ _ (F _ _ f)]at o;cases o
  have bR:y≠r:=λe=>by subst e;rw[G _ _ (F _ _ f)]at R;cases R
  exact k6 y z bR (by rw[bx bK];exact j y z (B y z f) (M _ _ f))
 .rw[L3,L5,L6];have bd:=j l _ m w;have r:=rE (dst:=C 33) L7 aty (.int .i64 (kE i));refine JJ (n:=48) (e:=upd (kZ 48 u) 33 (.int .i64 (kE i))) r O O ?_;simp only[aO,seval,ajl];rw[JK bd L1];simp only[aO,seval,ajn,ajm];intro t;have bK:∀y z,h y=C z->y≠l:=λy z f e=>by subst e;rw[G _ _ (F _ _ f)]at o;cases o
  obtain⟨rest,eb,ec,ed⟩:=hb;have hs:=d.aP i N;have c6:=d.top;have c4:(h4.put l ⟨.loop {L with state:=.busy},J⟩) c10=C ⟨.cells #[.int .i64 bl] 3 (0,0),J⟩:=by rw[bx (Ne.symm m)];exact hc
  refine akH (c10:=c10) (gb:=gb) (stb:=stb) (ns:=ns) (dq:=dq) (arr:=arr) (x:=x) (a:=bl) (k:=kE i) (q:=sE i) (o1:=o1) (o2:=o2) (by simp[aL,kZ,w2]) (by simp[aL,kZ,ba]) (by simp[aL]) c4
   (by rw[bx (bK gb _ D)];exact j gb _ (B gb _ D) (M _ _ D)) (by rw[bx (bK stb _ E)];exact j stb _ (B stb _ E) (M _ _ E)) (d.k0 i N).1 (d.k0 i N).2 (d.val i N) (cq U U) (B gb _ D) (B stb _ E) (λe6 Q b6 g6=> ?_) t
  simp only[aO,seval];show aH pv (Instr.endRound l o0) Q _;rw[DS (b6 l _ m cI)];refine⟨trivial,rfl,λy z f X=> ?_,by rw[bx (Ne.symm m)];exact g6⟩;by_cases ab:y=l
  .subst ab;rw[bd]at X;cases X;rw[cI,show({({L with state:=.busy}:Loop)with state:=.ready,pending:=o0}:Loop)=L by obtain⟨⟩:=L;simp_all]
  .rw[bx ab];exact b6 y z f (by rw[bx ab];exact X)
end
def rU:pv.underlying 9=C .string:=O
def gR(l:List UInt8):Bool:=(decide ((1:Int)<=l.length)&&decide ((l.length:Int)<=12))&&((match l with|[]=>q9|w::_=>oA w)&&l.all λw=>oA w||jz w)
def LS{ty:ta}{h:ae}{l:List UInt8}[K:KK o5]:al pv (auf #[9] ty #[au l]) h=K.f (.int .i64 l.length) h:=ae5 rU
def fq{h:ae}{l:List UInt8}{k:E1}{i:Int}[K:KK o5]:al pv (auG 9 (au l) (.int k i)) h=(0<=i/\@Av l[i.toNat]? ⟨λv=>K.f v h⟩):=ae4 rU
section
variable{main:Bool}{ai:Type}{S:Sys ai}
def TB(l:List UInt8):Pure pv main S 50 #[au l] (.bool (gR l)):=by
 intro s h;refine bL (args:=[au l]) Tryz.func50 (by delta Tryz.f50;rfl) Tryz.ntmps50 Y O ?_;simp only[aO,seval,LS];refine ev oB (oC _ _ _ _ _) ?_;cases a:(decide ((1:Int)<=l.length)&&decide ((l.length:Int)<=12))with
 |false=>simp only[aO,seval];refine bu ay8 Y ?_;simp[aL,gR,a]
 |true=>
  cases l with
  |nil=>simp at a
  |cons w r=>
  generalize g:w::r=l at a;have h0:l[0]? =C w:=by rw[<- g];rfl
  simp only[aO,seval,fq,h0,fJ,true_and,Int.le_refl];refine ev Rl (Rn w _ _) ?_;cases n:oA w with
  |false=>simp only[aO,seval];refine bu ay8 Y ?_;simp[aL,gR,<- g,n]
  |true=>
   simp only[aO,seval];have j:gR l=l.all (λw=>oA w||jz w):=by unfold gR;rw[a];rw[<- g];simp[n]
   have t:l.length<=12:=by simp at a;omega
   refine du (I:=λm e d o h'=>∃i:Nat,m=l.length- i/\i<=l.length/\e 0=au l/\e 3=.int .i64 i/\d=[]/\o=s/\h'=h/\(l.take i).all (λw=>oA w||jz w)=J) (λm e d o h' p=> ?_) (m:=l.length) ⟨0,Y,U,atA,atA,rfl,rfl,rfl,Y⟩;obtain⟨i,rfl,hi,e0,b,rfl,rfl,rfl,c⟩:=p;simp only[aO,seval,e0,b,LS];rcases Nat.lt_or_ge i l.length with hc|hc
   .have f:l[(i:Int).toNat]? =C l[i]:=Y
    have step:l.take (i+1)=l.take i++[l[i]]:=Y
    generalize l[i]=x at f step;simp only[aO,seval,e0,b,decide_eq_true (U:(i:Int)<l.length),fq,f,fJ];refine⟨U,ev Rl (Rn x _ _) ?_⟩;cases k:oA x with
    |true=>
     simp only[aO,seval,b];refine⟨_,?_,i+1,rfl,U,by simp[ak,e0],?_,rfl,rfl,rfl,?_⟩
     .omega
     .simp[ak,cq (x:=(i:Int)+1) U U]
     .rw[step];simp[k,c]
    |false=>
     simp only[aO,seval,e0,b,fq,f,fJ];refine⟨U,ev Rm (Ro x _ _) ?_⟩;cases hd:jz x with
     |true=>
      simp only[aO,seval,b];refine⟨_,?_,i+1,rfl,U,by simp[ak,e0],?_,rfl,rfl,rfl,?_⟩
      .omega
      .simp[ak,cq (x:=(i:Int)+1) U U]
      .rw[step];simp[hd,c]
     |false=>
      simp only[aO,seval];refine bu ay8 Y ?_;have:l.all (λw=>oA w||jz w)=q9:=by have q:x∈l:=aum f;rw[aAo];exact⟨x,q,by simp[k,hd]⟩
      simp[ak,j,this]
   .have:i=l.length:=U
    subst this;simp only[aO,seval,decide_eq_false (U:¬((l.length:Nat):Int)<l.length)];refine bu ay8 Y ?_;rw[List.take_length]at c;simp[ak,j,c]
end
section
variable{P:tb}{main:Bool}{ai:Type}{S:Sys ai}{b:aS}
def eV(P:tb)(main:Bool){ai:Type}(S:Sys ai)(b:aS)(ty:ta)(op:Op)(f:su->o5)(s:ai)(h:ae)(K:ai->ae->o5->Prop):Prop:=match op with
 | .move x=>@bA _ _ (f x) ⟨λv=>K s h v⟩
 | .assign x=>@bA _ _ (f x) ⟨λv=>K s h v⟩
 | .pick c x y=>@bA _ _ (f c) ⟨λj=>@bA _ _ (f x) ⟨λa=>@bA _ _ (f y) ⟨λd=>@al P _ (vt j a d) h ⟨λv h=>K s h v⟩⟩⟩⟩
 | .load t x=>@bA _ _ (f x) ⟨λa=>@eX P main _ S b t a s h ⟨λs h v=>K s h v⟩⟩
 | .binOp op xt x y _=>@bA _ _ (f x) ⟨λa=>@bA _ _ (f y) ⟨λd=>@al P _ (bN op xt x y a d) h ⟨λv h=>K s h v⟩⟩⟩
 | .unOp op _ x=>@bA _ _ (f x) ⟨λa=>@al P _ (Op.unary op a) h ⟨λv h=>K s h v⟩⟩
 | .fieldAddr t x i=>@bA _ _ (f x) ⟨λa=>@al P _ (at3 t a i) h ⟨λv h=>K s h v⟩⟩
 | .indexAddr t x y=>@bA _ _ (f x) ⟨λa=>@bA _ _ (f y) ⟨λd=>@al P _ (auX t a d) h ⟨λv h=>K s h v⟩⟩⟩
 | .index t x y=>@bA _ _ (f x) ⟨λa=>@bA _ _ (f y) ⟨λd=>@al P _ (auG t a d) h ⟨λv h=>K s h v⟩⟩⟩
 | .slice t x lo hi aZ=>@bA _ _ (f x) ⟨λa=>@al P _ (K0 t a (lo.map f) (hi.map f) (aZ.map f)) h ⟨λv h=>K s h v⟩⟩
 | .nilCheck x=>@bA _ _ (f x) ⟨λa=>@al P _ (vu a) h ⟨λan h=>match an with|.value v=>K s h v|_=>False⟩⟩
 | .build t bc=>@al P _ (atW t ((bc.toList.map λp=>(p.1,f p.2)).toArray)) h ⟨λv h=>K s h v⟩
 | .makeInterface t x=>@bA _ _ (f x) ⟨λa=>@al P _ (auW t a) h ⟨λv h=>K s h v⟩⟩
 | .call ⟨.value (.func g),e,_⟩=>@ej P main _ S g ((e.toList.map f).toArray) s h ⟨λs h v=>K s h v⟩
 | .call ⟨.builtin .len,e,dD⟩=>@al P _ (auf dD ty ((e.toList.map f).toArray)) h ⟨λv h=>K s h v⟩
 |_=>False
def uJ:Op->Bool
 | .move _|.assign _|.pick _ _ _|.load _ _|.binOp _ _ _ _ _|.unOp _ _ _|.fieldAddr _ _ _|.indexAddr _ _ _|.index _ _ _|.slice _ _ _ _ _|.nilCheck _|.build _ _|.makeInterface _ _=>J
 | .call ⟨.value (.func _),_,_⟩=>J
 | .call ⟨.builtin .len,_,_⟩=>J
 |_=>q9
def mH:su->List Nat
 | .tmp t=>[t]
 |_=>[]
def EM:Option su->List Nat
 |some x=>mH x
 |none=>[]
def iW:Op->List Nat
 | .move x|.assign x|.load _ x|.nilCheck x|.unOp _ _ x|.fieldAddr _ x _|.makeInterface _ x=>mH x
 | .build _ bc=>bc.toList.flatMap λp=>mH p.2
 | .pick c x y=>mH c++mH x++mH y
 | .binOp _ _ x y _|.indexAddr _ x y|.index _ x y=>mH x++mH y
 | .slice _ x lo hi aZ=>mH x++EM lo++EM hi++EM aZ
 | .call ⟨.value (.func _),a,_⟩=>a.toList.flatMap mH
 | .call ⟨.builtin .len,a,_⟩=>a.toList.flatMap mH
 |_=>[]
def EN{o:sa}(hc:uJ o.op=J){e:Env}{d:List tc}{s:ai}{h:ae}{N:Env->List tc->ai->ae->Prop}
  (u:eV P main S b o.type o.op (aA e) s h λs h v=>N (b7 e o.dst v) d s h):bP P main S b o e d s h N:=by
 obtain⟨dst,op,ty,pos,a,aT⟩:=o;cases op<;>first|exact(W3 hc).elim|exact u|skip
 case nilCheck x=>refine Go.Nk.lq P _ (λan h q=> ?_) u;cases an<;>first|exact q|cases q
 rename_i c;obtain⟨c,f,dD⟩:=c;cases c with
 |value x=>cases x<;>first|exact(W3 hc).elim|exact u
 |invoke=>exact(W3 hc).elim
 |builtin q=>cases q<;>first|exact(W3 hc).elim|exact u
def ku{e E:Env}{x:su}(h:∀t∈mH x,e t=E t):aA e x=aA E x:=by cases x<;>first|rfl|exact h _ (by simp[mH])
def LU{e E:Env}{x:Option su}(h:∀t∈EM x,e t=E t):x.map (aA e)=x.map (aA E):=by
 cases x with
 |none=>rfl
 |some x=>exact congrArg C (ku h)
def LV{e E:Env}:∀{l:List su},(∀t∈l.flatMap mH,e t=E t)->l.map (aA e)=l.map (aA E)
 | [],_=>rfl
 |x::l,h=>by rw[atS,atS,ku λt a=>h t (by simp[a]),LV λt a=>h t (by rw[ax4];exact aBX _ a)]
def TC{e E:Env}:∀{l:List (Nat×su)},(∀t∈l.flatMap (λp=>mH p.2),e t=E t)->(l.map λp=>(p.1,aA e p.2))=l.map λp=>(p.1,aA E p.2)
 | [],_=>rfl
 |x::l,h=>by rw[atS,atS,ku λt a=>h t (by simp[a]),TC λt a=>h t (by rw[ax4];exact aBX _ a)]
def yC{ty:ta}{op:Op}(hc:uJ op=J){e E:Env}(d:∀t∈iW op,e t=E t){s:ai}{h:ae}{K:ai->ae->o5->Prop}:eV P main S b ty op (aA e) s h K=eV P main S b ty op (aA E) s h K:=by
 cases op<;>first|exact(W3 hc).elim|skip
 case call c=>
  obtain⟨c,f,dD⟩:=c;cases c with
  |value x=>cases x<;>first|exact(W3 hc).elim|(simp only[eV];rw[LV d])
  |invoke=>exact(W3 hc).elim
  |builtin q=>cases q<;>first|exact(W3 hc).elim|(simp only[eV];rw[LV d])
 case move x=>simp only[eV];rw[ku d]
 case build t bc=>simp only[eV];rw[TC d]
 case makeInterface t x=>simp only[eV];rw[ku d]
 case assign x=>simp only[eV];rw[ku d]
 case load t x=>simp only[eV];rw[ku d]
 case nilCheck x=>simp only[eV];rw[ku d]
 case unOp u t x=>simp only[eV];rw[ku d]
 case fieldAddr t x i=>simp only[eV];rw[ku d]
 case pick c x y=>simp only[eV];rw[ku (x:=c) λt a=>d t (by simp[iW,a]),ku (x:=x) λt a=>d t (by simp[iW,a]),ku (x:=y) λt a=>d t (by simp[iW,a])]
 case binOp u t x y z=>simp only[eV];rw[ku (x:=x) λt a=>d t (by simp[iW,a]),ku (x:=y) λt a=>d t (by simp[iW,a])]
 case indexAddr t x y=>simp only[eV];rw[ku (x:=x) λt a=>d t (by simp[iW,a]),ku (x:=y) λt a=>d t (by simp[iW,a])]
 case index t x y=>simp only[eV];rw[ku (x:=x) λt a=>d t (by simp[iW,a]),ku (x:=y) λt a=>d t (by simp[iW,a])]
 case slice t x lo hi aZ=>simp only[eV];rw[ku (x:=x) λt a=>d t (by simp[iW,a]),LU (x:=lo) λt a=>d t (by simp[iW,a]),LU (x:=hi) λt a=>d t (by simp[iW,a]),LU (x:=aZ) λt a=>d t (by simp[iW,a])]
def akN{A:vm}{h:ae}{s:ai}{K:ai->ae->o5->Prop}:@al P _ (vu (.pointer (C A))) h ⟨λan h=>match an with|.value v=>K s h v|_=>False⟩=K s h (.pointer (C A)):=rfl
def akO(l:List sa)(o:sa):Bool:=(iW o.op).all λt=>(l.all λa=>a.dst != C t)||(o.after.toList.any λx=>Region.binds .any x&&((l[x.on]?).bind (·.dst)==C t))
def EO(l:List sa):Bool:=mE l&&l5 0 l&&l.all λo=>uJ o.op&&akO l o
def EP(o:Option Nat)(E:Env)(v:o5):Prop:=match o with|some t=>v=E t|none=>True
def TD{t:Nat}{E:Env}{v:o5}:EP (C t) E v=(v=E t):=rfl
def ER(P:tb)(main:Bool){ai:Type}(S:Sys ai)(b:aS)(E:Env)(s:ai)(h0:ae):List sa->Prop
 | []=>True
 |o::l=>(∀h,h0.ar h->eV P main S b o.type o.op (aA E) s h λa h' v=>a=s/\h.ar h'/\EP o.dst E v)/\ER P main S b E s h0 l
def TE{E:Env}{s:ai}{h0:ae}:∀{l:List sa},ER P main S b E s h0 l->∀{i:Nat} {o:sa},l[i]? =C o->∀h,h0.ar h->eV P main S b o.type o.op (aA E) s h λc h' v=>c=s/\h.ar h'/\EP o.dst E v
 | [],_,i,o,hi=>by simp at hi
 |a::l,u,i,o,hi=>by
  cases i with
  |zero=>simp at hi;subst hi;exact u.1
  |succ i=>exact TE u.2 (by simpa using hi)
def yD{ty:ta}{op:Op}{f:su->o5}{s:ai}{h:ae}{K M:ai->ae->o5->Prop}(k:∀s h v,K s h v->M s h v)(u:eV P main S b ty op f s h K):eV P main S b ty op f s h M:=by
 have jq:∀{α:Type} (m:Sem α) {K M:KK α},(∀v h,K.f v h->M.f v h)->@al P _ m h K->@al P _ m h M:=by intro α m K M k u;exact Go.Nk.lq P _ k u
 cases op<;>first|exact u.elim|skip
 case call c=>
  obtain⟨c,a,dD⟩:=c;cases c with
  |value x=>cases x<;>first|exact u.elim|exact ej.mono (K:=⟨λs h v=>K s h v⟩) (L:=⟨λs h v=>M s h v⟩) (λs h v=>k s h v) u
  |invoke=>exact u.elim
  |builtin q=>cases q<;>first|exact u.elim|exact jq _ (λv h=>k _ h v) u
 case load t x=>exact eX.mono (K:=⟨λs h v=>K s h v⟩) (L:=⟨λs h v=>M s h v⟩) (λs h v=>k s h v) u
 case nilCheck x=>refine jq _ (λan h q=> ?_) u;cases an<;>first|exact k _ _ _ q|exact q.elim
 case move x=>exact k _ _ _ u
 case assign x=>exact k _ _ _ u
 all_goals exact jq _ (λv h=>k _ h v) u
def akP{l:List sa}{d:List tc}{N:Env->List tc->ai->ae->Prop}(z:P.follows .mixedOrders=J)(p:EO l=J){e0:Env}{s:ai}{h0:ae}(E:Env)(r:∀t,l.all (λk=>k.dst != C t)=J->E t=e0 t)
  (st:ER P main S b E s h0 l) (H:∀h,h0.ar h->N E d s h) (t:Nat):fO P main S b l.toArray (atM (P.follows .mixedOrders) l.toArray t) e0 d s h0 N:=by
 simp only[EO,vh]at p;obtain⟨⟨h1,w⟩,I⟩:=p;refine DT h1 w z l.length (λ_ i v _=>∀a,(l[i]?).bind (·.dst)=C a->v=E a) (λ_ _ _ _ _ _ q=>q) (λ_ m=>m=s) (λ_ _=>False) (λ_ _ _ q=>q.elim) (λ_ _ _ _ q=>q.elim) rfl ?_ ?_ t
 .intro i o hi e m h le n c j _ K;subst j;have g:=G0.1 I o (aum hi);simp only[vh]at g;have A:∀t∈iW o.op,e t=E t:=λt f=>by
   have:=G0.1 g.2 t f;simp only[Bool.or_eq_true]at this;rcases this with q|q
   .rw[n t q,r t q]
   .rw[au2]at q;obtain⟨x,L,q⟩:=q;simp only[vh,beq_iff_eq]at q;exact K x.on t (au2.2 ⟨x,L,by simp[q.1]⟩) q.2 t q.2
  have B:i≠l.length:=λe=>by subst e;simp at hi
  refine EN g.1 ?_;rw[yC g.1 A];refine yD (λR w v ⟨M,Q,y⟩=>⟨rfl,v,rfl,?_⟩) (TE st hi h le);rw[if_neg B];refine⟨M,Q,λa u=> ?_⟩;rw[hi]at u;have D:o.dst=C a:=u;rw[D]at y;exact y
 .intro e m h le n q j;subst j;have:e=E:=by
   funext a;by_cases f:l.all (λk=>k.dst != C a)=J
   .rw[n a f,r a f]
   .rw[Bool.not_eq_true,aAo]at f;obtain⟨o,F,hd⟩:=f;obtain⟨i,hi⟩:=List.mem_iff_getElem?.1 F;have G:o.dst=C a:=by simpa using hd
    have hb:(l[i]?).bind (·.dst)=C a:=by rw[hi];exact G
    exact q i a hb a hb
  subst this;exact H h le
def uK(P:tb)(main:Bool){ai:Type}(S:Sys ai)(b:aS)(s:ai)(h0:ae):List sa->Env->(Env->Prop)->Prop
 | [],e,N=>N e
 |o::l,e,N=>∃v,(∀h,h0.ar h->eV P main S b o.type o.op (aA e) s h λa h' c=>a=s/\h.ar h'/\c=v)/\uK P main S b s h0 l (b7 e o.dst v) N
def ES:List sa->Bool
 | []=>J
 |o::l=>((iW o.op).all λt=>(o::l).all λa=>a.dst != C t)&&uJ o.op&&ES l
def TF{s:ai}{h0:ae}:∀{l:List sa} {e:Env} {N:Env->Prop},ES l=J->mE l=J->uK P main S b s h0 l e N->∃E:Env,(∀t,l.all (λm=>m.dst != C t)=J->E t=e t)/\N E/\ER P main S b E s h0 l
 | [],e,N,_,_,u=>⟨e,λ_ _=>rfl,u,trivial⟩
 |o::l,e,N,h1,c,⟨v,g,u⟩=>by
  simp only[ES,mE,vh]at h1 c;obtain⟨E,f,i,j⟩:=TF h1.2 c.2 u;refine⟨E,λt a=> ?_,i,λh le=> ?_,j⟩
  .simp only[avv,vh]at a;rw[f t a.2];cases hd:o.dst with
   |none=>rfl
   |some d=>rw[eU,aL,if_neg (λe=>by rw[hd,e]at a;simp at a)]
  .have k:∀t∈iW o.op,E t=e t:=λt a=>by
    have:=G0.1 h1.1.1 t a;simp only[avv,vh]at this;rw[f t this.2];cases hd:o.dst with
    |none=>rfl
    |some d=>rw[eU,aL,if_neg (λe=>by rw[hd,e]at this;simp at this)]
   rw[yC h1.1.2 k];refine yD (λr h' w ⟨n,p,q⟩=>⟨n,p,?_⟩) (g h le);cases hd:o.dst with
   |none=>trivial
   |some d=>rw[TD,q,f d ?_,hd,eU,aL,if_pos rfl];have:=c.1.2;rw[hd]at this;simpa using this
def kv{l:List sa}{d:List tc}{N:Env->List tc->ai->ae->Prop}(e:P.follows .mixedOrders=J)(a:EO l=J)(f:ES l=J){e0:Env}{s:ai}{h0:ae}
  (u:uK P main S b s h0 l e0 λE=>∀h,h0.ar h->N E d s h) (t:Nat):fO P main S b l.toArray (atM (P.follows .mixedOrders) l.toArray t) e0 d s h0 N:=by
 have c:=a;simp only[EO,vh]at c;obtain⟨E,j,g,i⟩:=TF f c.1.1 u;exact akP e a E j i g t
end
section
variable{P:tb}{main:Bool}{ai:Type}{S:Sys ai}{b:aS}{s:ai}{h h0:ae}{f:su->o5}{K:ai->ae->o5->Prop}{ty bZ i k:Nat}{a a1 a2 a3:su}{op:BinOp}{Af:UnOp}{lo hi aZ:Option su}{xs:Array su}{dD:Array Nat}{l:List sa}{e:Env}{N:Env->Prop}{o:sa}
def akQ:eV P main S b ty (.move a) f s h K=@bA _ _ (f a) ⟨λv=>K s h v⟩:=rfl
def akR:eV P main S b ty (.assign a) f s h K=@bA _ _ (f a) ⟨λv=>K s h v⟩:=rfl
def akS:eV P main S b ty (.pick a1 a2 a3) f s h K=@bA _ _ (f a1) ⟨λa=>@bA _ _ (f a2) ⟨λc=>@bA _ _ (f a3) ⟨λd=>@al P _ (vt a c d) h ⟨λv h=>K s h v⟩⟩⟩⟩:=rfl
def akT:eV P main S b ty (.load bZ a) f s h K=@bA _ _ (f a) ⟨λc=>@eX P main _ S b bZ c s h ⟨λs h v=>K s h v⟩⟩:=rfl
def akU:eV P main S b ty (.binOp op bZ a1 a2 i) f s h K=@bA _ _ (f a1) ⟨λa=>@bA _ _ (f a2) ⟨λc=>@al P _ (bN op bZ a1 a2 a c) h ⟨λv h=>K s h v⟩⟩⟩:=rfl
def akV:eV P main S b ty (.unOp Af bZ a) f s h K=@bA _ _ (f a) ⟨λc=>@al P _ (Op.unary Af c) h ⟨λv h=>K s h v⟩⟩:=rfl
def akW:eV P main S b ty (.fieldAddr bZ a i) f s h K=@bA _ _ (f a) ⟨λc=>@al P _ (at3 bZ c i) h ⟨λv h=>K s h v⟩⟩:=rfl
def akX:eV P main S b ty (.indexAddr bZ a1 a2) f s h K=@bA _ _ (f a1) ⟨λa=>@bA _ _ (f a2) ⟨λc=>@al P _ (auX bZ a c) h ⟨λv h=>K s h v⟩⟩⟩:=rfl
def akY:eV P main S b ty (.index bZ a1 a2) f s h K=@bA _ _ (f a1) ⟨λa=>@bA _ _ (f a2) ⟨λc=>@al P _ (auG bZ a c) h ⟨λv h=>K s h v⟩⟩⟩:=rfl
def akZ:eV P main S b ty (.slice bZ a lo hi aZ) f s h K=@bA _ _ (f a) ⟨λc=>@al P _ (K0 bZ c (lo.map f) (hi.map f) (aZ.map f)) h ⟨λv h=>K s h v⟩⟩:=rfl
def ak0:eV P main S b ty (.nilCheck a) f s h K=@bA _ _ (f a) ⟨λc=>@al P _ (vu c) h ⟨λan h=>match an with|.value v=>K s h v|_=>False⟩⟩:=rfl
def ak1:eV P main S b ty (.call ⟨.value (.func k),xs,dD⟩) f s h K=@ej P main _ S k ((xs.toList.map f).toArray) s h ⟨λs h v=>K s h v⟩:=rfl
def ak2{bc:Array (Nat×su)}:eV P main S b ty (.build bZ bc) f s h K=@al P _ (atW bZ ((bc.toList.map λp=>(p.1,f p.2)).toArray)) h ⟨λv h=>K s h v⟩:=rfl
def ak3:eV P main S b ty (.makeInterface bZ a) f s h K=@bA _ _ (f a) ⟨λc=>@al P _ (auW bZ c) h ⟨λv h=>K s h v⟩⟩:=rfl
def ak4:eV P main S b ty (.call ⟨.builtin .len,xs,dD⟩) f s h K=@al P _ (auf dD ty ((xs.toList.map f).toArray)) h ⟨λv h=>K s h v⟩:=rfl
def jN:uK P main S b s h0 [] e N=N e:=rfl
def gF{v:o5}(u:∀h,h0.ar h->eV P main S b o.type o.op (aA e) s h λa h' c=>a=s/\h.ar h'/\c=v)(k:uK P main S b s h0 l (b7 e o.dst v) N):uK P main S b s h0 (o::l) e N:=⟨v,u,k⟩
def cJ:=aD (aD (aD (aD @akQ @akR) (aD @akS @akT)) (aD (aD @akU @akV) (aD @akW @akX))) (aD (aD (aD @akY @akZ) (aD @ak0 @ak1)) (aD (aD @ak4 @akN) (aD @ak2 @ak3)))
end
abbrev aV(b o:Nat):o5:=.pointer (C ⟨b,o,o0⟩)
abbrev dn(b o n c:Nat):o5:=.slice (C ⟨b,o,o0⟩) n c
def wz(P:tb)(t i:Nat):Bool:=match P.underlying t with
 |some (.struct a)=>match a[i]? with|some f=>(match cu P f.type with|some (_+1)=>J|_=>q9)|none=>q9
 |_=>q9
def wA(P:tb)(t i:Nat):Nat:=match P.underlying t with
 |some (.struct a)=>match a[i]? with|some f=>f.offset|none=>0
 |_=>0
def yE(P:tb)(t:Nat):Bool:=match P.underlying t with
 |some (.slice e)=>(cu P e).isSome
 |_=>q9
def ET(P:tb)(t:Nat):Nat:=match P.underlying t with
 |some (.slice e)=>(cu P e).getD 0
 |_=>0
def yF(P:tb)(t:Nat):Bool:=match fS P t with|some o0=>J|_=>q9
def rV(P:tb)(t:Nat):Nat:=match fS P t with|some (C n)=>n|_=>0
def wB(P:tb)(t:Nat):Bool:=match fS P t with|some (C _)=>J|_=>q9
def LW(x:Option dL)(o:Nat)[K:xu o5 Prop]:Prop:=match x with|some ⟨.cells arr _ _,_⟩=>@tZ arr[o]? K|_=>False
def lP(o:Nat):Nat->Array o5->Option (List o5)
 | 0,_=>C []
 |n+1,arr=>qB arr[o]? (lP (o+1) n arr)
def TG(x:Option dL)(o n:Nat)[K:xu o5 Prop]:Prop:=match x with|some ⟨.cells arr _ _,_⟩=>@Cf (lP o n arr) K|_=>False
section
variable{P:tb}{h:ae}{main:Bool}{ai:Type}{S:Sys ai}{b:aS}{s:ai}{t ty c o n m i:Nat}
def ak5(a:wz P t i=J)[K:KK o5]:al P (at3 t (aV c o) i) h=K.f (aV c (o+wA P t i)) h:=by
 unfold wz at a;split at a
 .rename_i g d;split at a
  .rename_i f b;split at a
   .rename_i q e;rw[m1 (m:=q) d b rfl e,kU];simp[wA,d,b]
   .cases a
  .cases a
 .cases a
def ak6(b:yE P t=J){a:Option vm}[K:KK o5]:al P (auf #[t] ty #[.slice a n c]) h=K.f (.int .i64 n) h:=by
 unfold yE at b;split at b
 .rename_i e d;exact uf d
 .cases b
def ak7(a:yE P t=J){k:E1}{x:Int}[K:KK o5]:al P (auX t (dn m o n c) (.int k x)) h=((decide (0<=x)&&decide (x<n))=J/\K.f (aV m (o+x.toNat*ET P t)) h):=by
 unfold yE at a;split at a
 .rename_i e b;obtain⟨d,hs⟩:=aud.1 a;rw[Ch b hs];simp[ET,b,hs]
 .cases a
def ak8{arr:Array o5}{q:ta}{f:Nat×Nat}{w:Bool}{K:o5->Prop}:@LW (C ⟨.cells arr q f,w⟩) o ⟨K⟩=@tZ arr[o]? ⟨K⟩:=rfl
def ak9{arr:Array o5}{q:ta}{f:Nat×Nat}{w:Bool}{K:o5->Prop}:@TG (C ⟨.cells arr q f,w⟩) o n ⟨K⟩=@Cf (lP o n arr) ⟨K⟩:=rfl
def ala{arr:Array o5}:lP o 0 arr=C []:=rfl
def LX{arr:Array o5}:lP o (n+1) arr=qB arr[o]? (lP (o+1) n arr):=rfl
def alb(a:yF P t=J)(hs:(h c).isSome=J)[K:hA ai]:eX P main S b t (aV c o) s h=@LW (h c) o ⟨λv=>K.f s h v⟩:=by
 unfold yF at a;split at a
 .rename_i e;obtain⟨x,d⟩:=aud.1 hs;rw[ua (K:=K) d,GW (K:=⟨λv h=>K.f s h v⟩) e,d];obtain⟨x,w⟩:=x;cases x<;>first|rfl|skip
  all_goals simp[ae.cell?,d,LW,tZ]
 .cases a
def iX{w:Bool}{arr:Array o5}{q:ta}{f:Nat×Nat}(a:h c=C ⟨.cells arr q f,w⟩):∀{n i:Nat},h.iS ⟨c,o,o0⟩ i n=lP (o+i) n arr
 | 0,i=>rfl
 |n+1,i=>by rw[pG,LX,iX a];congr 1;simp[ae.cell?,a]
def alc(d:wB P t=J)(i:0<rV P t)(hs:(h c).isSome=J)[K:hA ai]:eX P main S b t (aV c o) s h=@TG (h c) o (rV P t) ⟨λv=>K.f s h v⟩:=by
 unfold wB at d;split at d
 .rename_i k g;have e:rV P t=k:=by simp[rV,g]
  rw[e]at i ⊢;obtain⟨x,a⟩:=aud.1 hs;rw[ua (K:=K) a,zO (K:=⟨λv h=>K.f s h v⟩) g,a];obtain⟨x,w⟩:=x;cases x with
  |cells arr q f=>rw[iX a];rfl
  |_=>
   obtain⟨k,rfl⟩:∃j,k=j+1:=⟨k- 1,U⟩;rw[pG];have:h.cell? ⟨c,o+0,o0⟩=o0:=by simp[ae.cell?,a]
   rw[this];rfl
 .cases d
end
def EU(x:Option dL)(o:Nat)(vs:List o5):dL:=match x with
 |some ⟨.cells arr q f,w⟩=>⟨.cells (vs.foldl (λa v=>(a.1+1,a.2.setIfInBounds a.1 v)) (o,arr)).2 q f,w⟩
 |some x=>x
 |none=>⟨.cells #[] 0 (0,0),J⟩
def LY(x:Option dL)(o n:Nat):Bool:=match x with
 |some ⟨.cells arr _ f,w⟩=>w&&decide (f=(0,0))&&decide (o+n<=arr.size)
 |_=>q9
def LZ{arr:Array o5}{q:ta}{f:Nat×Nat}{w:Bool}{o:Nat}{vs:List o5}:EU (C ⟨.cells arr q f,w⟩) o vs=⟨.cells (vs.foldl (λa v=>(a.1+1,a.2.setIfInBounds a.1 v)) (o,arr)).2 q f,w⟩:=rfl
def TH{arr:Array o5}{q:ta}{f:Nat×Nat}{w:Bool}{o n:Nat}:LY (C ⟨.cells arr q f,w⟩) o n=(w&&decide (f=(0,0))&&decide (o+n<=arr.size)):=rfl
def mh(P:tb)(t:Nat):Nat:=(cu P t).getD 0
def EV(P:tb)(t:Nat)(v:o5):Bool:=(cu P t).isSome&&v.cells.toList.length==mh P t&&v.cells.toList.all jG
def EW{h:ae}{c:Nat}{q:ta}:∀{vs:List o5} {arr:Array o5} {o i:Nat} {K:ae->Prop},vs.all jG=J->o+i+vs.length<=arr.size->@ub J ⟨c,o,o0⟩ i vs (h.put c ⟨.cells arr q (0,0),J⟩) ⟨K⟩=K (h.put c ⟨.cells (vs.foldl (λa v=>(a.1+1,a.2.setIfInBounds a.1 v)) (o+i,arr)).2 q (0,0),J⟩)
 | [],arr,o,i,K,_,_=>zP
 |v::vs,arr,o,i,K,b,d=>by simp only[avv,vh]at b;simp only[RF]at d;rw[xF,EW (vs:=vs) (i:=i+1) b.2 atB];simp only[b.1,awQ,decide_eq_true_eq,(U:o+i<arr.size),true_and];rfl
section
variable{P:tb}{h:ae}{main:Bool}{ai:Type}{S:Sys ai}{b:aS}{s:ai}{t ty c o n m i:Nat}
def TI{v:o5}(a:EV P t v=J)(hs:LY (h c) o (mh P t)=J)[K:KK Unit]:al P (aub t (aV c o) v) h=∀h1,h1=h.put c (EU (h c) o v.cells.toList)->K.f () h1:=by
 rw[show(∀h1,h1=h.put c (EU (h c) o v.cells.toList)->K.f () h1)=K.f () (h.put c (EU (h c) o v.cells.toList))from propext ⟨λk=>k _ rfl,λk h1 e=>by subst e;exact k⟩];simp only[EV,vh,beq_iff_eq]at a;obtain⟨⟨h1,b⟩,j⟩:=a;obtain⟨k,d⟩:=aud.1 h1;have e:mh P t=k:=by simp[mh,d]
 rw[e]at b hs;rw[xE d];have l:(v.cells.size==k)=J:=by simpa using b
 rw[l];unfold LY at hs;split at hs
 .rename_i arr q f w g;simp only[vh,decide_eq_true_eq]at hs;obtain⟨⟨rfl,rfl⟩,m⟩:=hs;rw[g,LZ];have:=EW (h:=h) (c:=c) (q:=q) (vs:=v.cells.toList) (arr:=arr) (o:=o) (i:=0) (K:=K.f ()) j U;rw[lN g,Nat.add_zero]at this;exact this
 .cases hs
def qR(P:tb)(t:Nat):Array o5:=((fw P t).getD .nilFunc).cells
def uL(P:tb)(t:Nat):Bool:=(fw P t).isSome&& !zF t
def ald(a:uL P t=J)[K:hA ai]:nv P main S b t s h=∀c h1,h c=o0->h1=h.put c ⟨.cells (qR P t) t,J⟩->K.f s h1 (aV c 0):=by
 simp only[uL,vh,Bool.not_eq_true']at a;obtain⟨z,d⟩:=aud.1 a.1;unfold nv;rw[a.2];show @al P _ (Instr.alloc t J (.tuple #[])) h ⟨λv h=>K.f s h v⟩=_;rw[GV (K:=⟨λv h=>K.f s h v⟩) d];have e:qR P t=z.cells:=by simp[qR,d]
 rw[e];exact propext ⟨λk c h1 hc e=>by subst e;exact k c hc,λk c hc=>k c _ hc rfl⟩
end
def bZ(t:Nat)(a:yF pv t=J:=by kernel_rfl)(b:mh pv t=1:=by kernel_rfl)(c:(cu pv t).isSome=J:=by kernel_rfl):yF pv t=J/\mh pv t=1/\(cu pv t).isSome=J:=aD a (aD b c)
def cU(t n:Nat)(a:wB pv t=J:=by kernel_rfl)(b:rV pv t=n:=by kernel_rfl)(c:mh pv t=n:=by kernel_rfl)(d:(cu pv t).isSome=J:=by kernel_rfl):wB pv t=J/\rV pv t=n/\mh pv t=n/\(cu pv t).isSome=J:=aD a (aD b (aD c d))
def jA(t n:Nat)(a:yE pv t=J:=by kernel_rfl)(b:ET pv t=n:=by kernel_rfl):yE pv t=J/\ET pv t=n:=aD a b
def fK(t n:Nat)(a:wz pv t n=J:=by kernel_rfl)(b:wA pv t n=n:=by kernel_rfl):wz pv t n=J/\wA pv t n=n:=aD a b
def ie(t:Nat)(l:List o5)(a:uL pv t=J:=by kernel_rfl)(b:qR pv t=l.toArray:=by kernel_rfl):uL pv t=J/\qR pv t=l.toArray:=aD a b
def ale:=aD (aD (aD (aD (aD (aD (bZ 3) (aD (bZ 4) (bZ 5))) (aD (bZ 9) (aD (bZ 22) (bZ 23)))) (aD (aD (bZ 26) (aD (bZ 27) (bZ 33))) (aD (bZ 44) (aD (bZ 47) (bZ 86))))) (aD (aD (aD (bZ 87) (aD (bZ 206) (bZ 199))) (aD (bZ 148) (aD (bZ 273) (bZ 370)))) (aD (aD (bZ 91) (aD (bZ 98) (bZ 153))) (aD (bZ 20) (aD (bZ 106) (cU 46 1)))))) (aD (aD (aD (aD (cU 49 1) (aD (cU 63 2) (cU 51 4))) (aD (cU 53 4) (aD (cU 25 4) (cU 29 2)))) (aD (aD (cU 119 4) (aD (cU 137 2) (cU 145 3))) (aD (cU 147 2) (aD (cU 104 1) (cU 159 2))))) (aD (aD (aD (cU 161 1) (aD (cU 163 1) (cU 167 4))) (aD (cU 169 4) (aD (jA 22 1) (jA 23 1)))) (aD (aD (jA 26 4) (aD (jA 27 4) (jA 44 1))) (aD (jA 47 2) (aD (jA 87 1) (jA 98 1))))))) (aD (aD (aD (aD (aD (fK 25 0) (aD (fK 25 1) (fK 25 2))) (aD (fK 25 3) (aD (fK 29 0) (fK 29 1)))) (aD (aD (fK 46 0) (aD (fK 49 0) (fK 63 0))) (aD (fK 63 1) (aD (fK 51 0) (fK 51 1))))) (aD (aD (aD (fK 51 2) (aD (fK 51 3) (fK 53 0))) (aD (fK 53 1) (aD (fK 53 2) (fK 53 3)))) (aD (aD (fK 89 0) (aD (fK 89 1) (fK 119 0))) (aD (fK 137 0) (aD (fK 104 0) (fK 159 0)))))) (aD (aD (aD (aD (fK 159 1) (aD (fK 161 0) (fK 163 0))) (aD (fK 167 0) (aD (fK 169 0) (ie 3 [.int .i64 0])))) (aD (aD (ie 46 [.slice o0 0 0]) (aD (ie 49 [.slice o0 0 0]) (ie 63 [.int .i64 0,.int .i64 0]))) (aD (ie 51 [.string .empty,.int .i64 0,.int .i64 0,.int .i64 0]) (aD (ie 53 [.string .empty,.int .i64 0,.int .i64 0,.int .i64 0]) (ie 25 [.slice o0 0 0,.slice o0 0 0,.int .i64 0,.int .i64 0]))))) (aD (aD (aD (ie 29 [.slice o0 0 0,.slice o0 0 0]) (aD (ie 89 [.pointer o0,.slice o0 0 0]) (ie 119 [.slice o0 0 0,.slice o0 0 0,.int .i64 0,.int .i64 0]))) (aD (ie 137 [.slice o0 0 0,.slice o0 0 0]) (aD (ie 4 [.bool q9]) (ie 9 [.string .empty])))) (aD (aD (ie 91 [.nilIface]) (aD (ie 104 [.int .i64 0]) (ie 159 [.int .i64 0,.int .i64 0]))) (aD (aD (ie 161 [.slice o0 0 0]) (ie 163 [.slice o0 0 0])) (aD (ie 167 [.string .empty,.int .i64 0,.int .i64 0,.int .i64 0]) (ie 169 [.string .empty,.int .i64 0,.int .i64 0,.int .i64 0])))))))
def alf{k:E1}{i:Int}:atN (.int k i)=#[.int k i]:=rfl
def alg{b:Bool}:atN (.bool b)=#[.bool b]:=rfl
def alh{b:ByteArray}:atN (.string b)=#[.string b]:=rfl
def ali{a:Option vm}{n c:Nat}:atN (.slice a n c)=#[.slice a n c]:=rfl
def alj{a:Option vm}:atN (.pointer a)=#[.pointer a]:=rfl
def L0{l:Array o5}:atN (.agg l)=l:=rfl
def alk{f:Fn}{x y:Array o5}:atN (.func f x y)=#[.func f x y]:=rfl
def alm{t:ta}{v:o5}:atN (.iface t v)=#[.iface t v]:=rfl
def aln:atN .nilIface=#[.nilIface]:=rfl
def alo{k:E1}{i:Int}:jG (.int k i)=J:=rfl
def alp{b:Bool}:jG (.bool b)=J:=rfl
def alq{b:ByteArray}:jG (.string b)=J:=rfl
def alr{a:Option vm}{n c:Nat}:jG (.slice a n c)=J:=rfl
def als{a:Option vm}:jG (.pointer a)=J:=rfl
def alu{f:Fn}{x y:Array o5}:jG (.func f x y)=J:=rfl
def alv{t:ta}{v:o5}:jG (.iface t v)=J:=rfl
def alw:jG .nilIface=J:=rfl
def alx{P:tb}{h:ae}{t:ta}{v:o5}[K:KK o5]:al P (Instr.box t v) h=∀c h1,h c=o0->h1=h.put c ⟨.cells v.cells t,J⟩->K.f (aV c 0) h1:=by rw[vJ];exact propext ⟨λk c h1 hc e=>by subst e;exact k c hc,λk c hc=>k c _ hc rfl⟩
def bU{h h1:ae}{c:Nat}{x:dL}(hc:h c=o0)(e:h1=h.put c x):h.ar h1:=by subst e;exact gW hc
def dM{h0 h h1:ae}{c:Nat}{x:dL}(l:h0.ar h)(hc:h0 c=o0)(e:h1=h.put c x):h0.ar h1:=by subst e;intro b y hb;rw[bx (λq=>by subst q;rw[hc]at hb;cases hb)];exact l b y hb
def bw{h h1:ae}{c:Nat}{x:dL}(e:h1=h.put c x):h1 c=C x:=by subst e;exact cI
def aly{i:Nat}:decide ((0:Int)<=i)=J:=Y
def alz{P:tb}{t:Nat}{v:o5}:EV P t v=((cu P t).isSome&&v.cells.toList.length==mh P t&&v.cells.toList.all jG):=rfl
def ah:=aD (aD (aD (aD (aD (@ak5) (aD @ak6 @ak7)) (aD (aD @alb @alc) (aD @TI @ald))) (aD (aD (aD @alx @ak8) (aD @ak9 @Ce)) (aD (aD @Zp @ala) (aD @LX @Cg)))) (aD (aD (aD (aD @LZ @TH) (aD @alf @alg)) (aD (aD @alh @ali) (aD @alj @L0))) (aD (aD (aD @alk @alm) (aD @aln @alo)) (aD (aD @alp @alq) (aD @alr @als))))) (aD (aD (aD (aD (aD @alu @alv) (aD @alw @aly)) (aD (aD @true_and @alz) (aD @Zr @sJ))) (aD (aD (aD @xA @YV) (aD @ale @aO)) (aD (aD @Nat.zero_add @Nat.add_zero) (aD @Nat.mul_one @Int.toNat_natCast)))) (aD (aD (aD (aD @Option.isSome_some.{0} @List.getElem?_toArray.{0}) (aD @List.getElem?_cons_zero.{0} @List.getElem?_cons_succ.{0})) (aD (aD @List.size_toArray.{0} @RF.{0}) (aD @List.length_nil.{0} @List.foldl_cons.{0,0}))) (aD (aD (aD @List.foldl_nil.{0,0} @List.setIfInBounds_toArray.{0}) (aD @List.set_cons_zero.{0} @List.set_cons_succ.{0})) (aD (aD @Bool.and_true @awQ) (aD @avv.{0} @List.all_nil.{0})))))
section
variable{main:Bool}{ai:Type}{S:Sys ai}{s:ai}{h:ae}
def gk(p:Int×Int):o5:=.agg #[.int .i64 p.1,.int .i64 p.2]
def na(p:Int×Int)(lo hi:Int):Bool:=(decide (lo<=p.1)&&decide (p.1<=hi))&&((decide (lo<=p.2)&&decide (p.2<=hi))&&decide (p.1<=p.2))
def alA(p:Int×Int)(lo hi:Int):bo pv main S 48 #[gk p,.int .i64 lo,.int .i64 hi] s h λe h' v=>e=s/\h.ar h'/\v=.bool (na p lo hi):=by
 refine bL (args:=[gk p,.int .i64 lo,.int .i64 hi]) Tryz.func48 (by delta Tryz.f48;rfl) Tryz.ntmps48 Y O ?_;simp only[ah,seval,gk];intro c h1 hc d;have le:=bU hc d;have g:=bw d;simp only[ah,seval,g];refine ev oB (oC _ _ _ _ _) ?_;cases a:(decide (lo<=p.1)&&decide (p.1<=hi))with
 |false=>simp only[ah,seval];exact bu aAp Y ⟨rfl,le,by simp[ak,na,a]⟩
 |true=>
  simp only[ah,seval,g];refine ev oB (oC _ _ _ _ _) ?_;cases b:(decide (lo<=p.2)&&decide (p.2<=hi))with
  |false=>simp only[ah,seval];exact bu aAp Y ⟨rfl,le,by simp[ak,na,b]⟩
  |true=>simp only[ah,seval,g];exact bu aAp Y ⟨rfl,le,by simp[ak,na,a,b]⟩
structure dE(h:ae)(v:o5)(aU:Nat)(rows:List (List o5)):Prop where
 ex:∃b o n c,v=.slice b n c/\rows.length=n/\(n=0\/∃m,b=C ⟨m,o,o0⟩/\∃arr q f w,h m=C ⟨.cells arr q f,w⟩/\∀i row,rows[i]? =C row->∀j x,row[j]? =C x->arr[o+i*aU+j]? =C x)
def dE.le{h h':ae}{v:o5}{a:Nat}{rows:List (List o5)}(le:h.ar h')(q:dE h v a rows):dE h' v a rows:=by obtain⟨b,o,n,c,g,i,j⟩:=q;refine⟨b,o,n,c,g,i,j.imp id λ⟨m,e,arr,q,f,w,k,d⟩=>⟨m,e,arr,q,f,w,le _ _ k,d⟩⟩
structure bY where
 b2:List (List Int)
 cf:List (List (Int×Int))
 cW:Int
 cS:Int
structure fU where
 name:List UInt8
 cX:Int
 size:Int
 gS:Int
structure fV where
 name:List UInt8
 size:Int
 ff:Int
 cX:Int
structure Ground where
 db:List fU
 c7:List fV
def bO(i:Int):o5:=.int .i64 i
def ig(h:ae)(v:o5)(l:List Int):Prop:=dE h v 1 (l.map λi=>[bO i])
def rW(h:ae)(v:o5)(l:List (Int×Int)):Prop:=dE h v 2 (l.map λp=>[bO p.1,bO p.2])
def qS{α β:Type}(R:α->β->Prop)(l:List α)(m:List β):Prop:=l.length=m.length/\∀(i:Nat) x y,l[i]? =C x->m[i]? =C y->R x y
def yG(h:ae)(v:o5)(l:List (List Int)):Prop:=∃a:List o5,dE h v 1 (a.map λx=>[x])/\qS (ig h) a l
def yH(h:ae)(v:o5)(l:List (List (Int×Int))):Prop:=∃a:List o5,dE h v 1 (a.map λx=>[x])/\qS (rW h) a l
def L8(h:ae)(v:o5)(l:List fU):Prop:=dE h v 4 (l.map λs=>[au s.name,bO s.cX,bO s.size,bO s.gS])
def L9(h:ae)(v:o5)(l:List fV):Prop:=dE h v 4 (l.map λs=>[au s.name,bO s.size,bO s.ff,bO s.cX])
def k7(h:ae)(v:o5)(b:bY):Prop:=∃a c,v=.agg #[a,c,bO b.cW,bO b.cS]/\yG h a b.b2/\yH h c b.cf
def kL(h:ae)(v:o5)(g:Ground):Prop:=∃a b,v=.agg #[a,b]/\L8 h a g.db/\L9 h b g.c7
def qS.imp{α β:Type}{R Q:α->β->Prop}(k:∀x y,R x y->Q x y){l:List α}{m:List β}(q:qS R l m):qS Q l m:=⟨q.1,λi x y h1 a=>k _ _ (q.2 i x y h1 a)⟩
def yG.le{h h':ae}{v:o5}{l:List (List Int)}(le:h.ar h')(q:yG h v l):yG h' v l:=let⟨c,a,b⟩:=q;⟨c,a.le le,b.imp λ_ _ q=>dE.le le q⟩
def yH.le{h h':ae}{v:o5}{l:List (List (Int×Int))}(le:h.ar h')(q:yH h v l):yH h' v l:=let⟨c,a,b⟩:=q;⟨c,a.le le,b.imp λ_ _ q=>dE.le le q⟩
def k7.le{h h':ae}{v:o5}{b:bY}(le:h.ar h')(q:k7 h v b):k7 h' v b:=let⟨d,e,a,b,c⟩:=q;⟨d,e,a,b.le le,c.le le⟩
def kL.le{h h':ae}{v:o5}{b:Ground}(le:h.ar h')(q:kL h v b):kL h' v b:=let⟨d,e,a,b,c⟩:=q;⟨d,e,a,dE.le le b,dE.le le c⟩
end
end
end Go.Nk
