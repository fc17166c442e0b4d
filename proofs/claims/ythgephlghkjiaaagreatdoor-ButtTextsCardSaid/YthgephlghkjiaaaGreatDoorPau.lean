/- Part Pau of the proof of ButtTexts: lemmas. -/
import Derived.Test.YthgephlghkjiaaaGreatDoorPat
set_option maxRecDepth 100000
set_option maxHeartbeats 4000000
set_option linter.all false
namespace Go.Nk
noncomputable section
open Go Go.Conc Go.Proofs
open _root_.Array renaming size_setIfInBounds->ax6,toList_inj->auT
open Bool renaming true->J,false->q9,false_ne_true->W3,and_eq_true->vh,true_or->awd,and_self->awj,not_true->avO,false_or->awc,false_eq_true->N2
open Go renaming Value->o5,IntKind->E1,convert->atU,Operand->su,Program->tb,Oper->sa,Deferred->tc,TypeId->ta,Addr->vm,liesAt->ax7,variablesAt->aAD,eqGuard->W2,sameLayout->aAF,loadBytes->ax9
open Go.Builtin renaming firstCells->avy,append_->auY,nextslicecap->axt,zeroCells->awA,unsafeString_->ayC,unsafeSliceData_->ayD
open Go.Instr renaming sliceAt->K0,storeAt->aub
open Go.IntKind renaming u8->ax5,i64->xy,u32->aun,u64->avU
open Go.Op renaming equal->auz,equalIn->at1
open Go.Proofs.Tryz renaming prog->pv,underlying206->azd,underlying5->awk,results177->aCc,results155->aCd,underlying199->aAB,func157->aCe,ntmps157->aCf,results157->aCg,results109->aAC,underlying87->aw8,underlying9->awi,underlying86->ax8,results70->aCl
open Go.Question renaming appendCap->awB
open Go.Region renaming binds->atV,schedule->atM,wanted->R9
open List renaming range->atG,all_cons->avv,all_eq_true->G0,getElem?_eq_some_iff->F1,mem_of_getElem?->aum,any_eq_true->au2,map_cons->atS,nil_append->awC,map_nil->awD,getElem?_toArray->au1,getElem?_cons_zero->au8,length_cons->RF,take_add_one->atC,length_append->M3,flatMap_cons->ax4,append_assoc->auN
open Nat renaming lt_or_ge->vy,mul_one->avV
open Option renaming some->C,none->o0,isSome_iff_exists->aud
open UInt8 renaming ofNat->avW
def kV(i:Nat):Nat:=if i=0 then 0 else Nat.log2 i+1
def uR{L:List UInt8}{f:Nat->Nat}{i n:Nat}{K:o5->Prop}(hi:i<n)(c:∀j:Fin n,L[j.1]? =C (avW (f j.1))/\f j.1<256)(k:K (.int .u8 (f i:Nat))):@Av L[i]? ⟨K⟩:=by
 obtain⟨a,b⟩:=c ⟨i,hi⟩;rw[a,fJ];have:((avW (f i)).toNat:Int)=(f i:Nat):=by have bG:f i<256:=b;simp;omega
 rw[this];exact k
def Fe{i:Nat}(hi:i<256):kV i<=8:=by
 have:∀i:Fin 256,kV i.1<=8:=by decide +kernel
 exact this ⟨i,hi⟩
def mM(n:Nat):Nat:=if n<256 then kV n else 8+kV (n/256)
def fP(n:Nat):Nat:=if n<1000 then 3 else 4
def ng(m:Nat):Nat:=m*78913/2^18
def amW{n:Nat}(h0:100<=n)(h1:n<256):ng (mM n)=2:=by
 have:∀n:Fin 256,100<=n.1->ng (kV n.1)=2:=by decide +kernel
 rw[mM,if_pos h1];exact this ⟨n,h1⟩ h0
def amX{n:Nat}(h0:256<=n)(h1:n<10000):(n<512->ng (mM n)=2)/\(512<=n->n<8192->ng (mM n)=3)/\(8192<=n->ng (mM n)=4):=by
 have:∀m:Fin 40,1<=m.1->(m.1<2->ng (8+kV m.1)=2)/\(2<=m.1->m.1<32->ng (8+kV m.1)=3)/\(32<=m.1->ng (8+kV m.1)=4):=by decide +kernel
 obtain⟨a,b,c⟩:=this ⟨n/256,U⟩ (by show 1<=n/256;omega);simp only at a b c;rw[mM,if_neg U];exact⟨λq=>a U,λq r=>b U U,λq=>c U⟩
def amY{n:Nat}(h0:100<=n)(h1:n<10000):ng (mM n)<5/\ng (mM n)+(if n>=10^ng (mM n)then 1 else 0)=fP n:=by
 unfold fP;rcases vy n 256 with q|q
 .rw[amW h0 q];simp;split<;>split<;>omega
 .obtain⟨a,b,c⟩:=amX q h1;rcases vy n 512 with r|r
  .rw[a r];simp;split<;>split<;>omega
  .rcases vy n 8192 with d|d
   .rw[b r d];simp;split<;>split<;>omega
   .rw[c d];simp;split<;>split<;>omega
def amZ:Fb pv 297=J/\AY pv 297=20/\AZ pv 297=1:=⟨O,O,O⟩
def nR(h:ae):Prop:=∃arr q f w,h 4=C ⟨.cells arr q f,w⟩/\∀d,d<5->arr[d]? =C (.int .u64 ((10^d:Nat):Int))
def nR.le{h h':ae}(l:h.ar h')(t:nR h):nR h':=let⟨a,q,f,w,e,r⟩:=t;⟨a,q,f,w,l _ _ e,r⟩
section
variable{main:Bool}{ai:Type}{S:Sys ai}{s:ai}{h:ae}
def am0:bz pv 176=J:=O
def am1:bz pv 177=J:=O
def am2:bz pv 178=J:=O
def am3:bz pv 156=J:=O
def wH{b:aS}{t u:Nat}{k k':E1}(a:pv.underlying t=C (.int k))(c:pv.underlying u=C (.int k')){kk:E1}{i:Int}[K:hA ai]:iw pv main S b t u (.int kk i) s h=K.f s h (.int k' (k'.wrap i)):=by show @al pv _ (atU t u (.int kk i)) h ⟨λv h=>K.f s h v⟩=_;simp only[al,atU,aJ,c0,a,c,Conv.intToInt,aR]
def Mp{b:aS}{kk:E1}{i:Int}[K:hA ai]:iw pv main S b 206 5 (.int kk i) s h=K.f s h (.int .u8 (ax5.wrap i)):=wH azd awk
def UD{b:aS}{kk:E1}{i:Int}[K:hA ai]:iw pv main S b 5 3 (.int kk i) s h=K.f s h (.int .i64 (xy.wrap i)):=wH awk Tryz.underlying3
def A8{n:Nat}(a:n<256):ax5.wrap (n:Int)=n:=by simp only[IntKind.wrap,IntKind.bits,IntKind.signed];simp;omega
def am4{n:Nat}(e:n<10000):Pure pv main S 177 #[.int .u64 n] (.int .i64 (mM n:Nat)):=by
 intro s h;refine bL (args:=[.int .u64 n]) Tryz.func177 (by delta Tryz.f177;rfl) Tryz.ntmps177 Y O ?_;have c:∀i:Nat,i<=100->xy.wrap (i:Int)=i:=λi hi=>cq U U;by_cases h1:n<256
 .have bM:=Fe h1;simp only[ah,seval,decide_eq_false (U:¬(n:Int)>=4294967296),decide_eq_false (U:¬(n:Int)>=65536),decide_eq_false (U:¬(n:Int)>=256),Mp,A8 h1,fq];refine⟨U,uR (f:=kV) h1 (by decide +kernel) ?_⟩;simp only[ah,seval,UD,c _ (U:kV n<=100)];refine bu aCc Y ⟨rfl,rfl,?_⟩;simp[ak,mM,h1];exact c _ U
 .have d:n/256<256:=U
  have bM:=Fe d;have sh:∀{x y:su} {h:ae} [K:KK o5],al pv (bN .shr 206 x y (.int .u64 n) (.int .u64 8)) h=K.f (.int .u64 (n/256:Nat)) h:=λ{x y h K}=>yP (k:=.u64) (k':=.u64) (a:=n) (b:=8) rfl;simp only[ah,seval,decide_eq_false (U:¬(n:Int)>=4294967296),decide_eq_false (U:¬(n:Int)>=65536),decide_eq_true (U:(n:Int)>=256),sh,Mp,A8 d,fq];refine⟨U,uR (f:=kV) d (by decide +kernel) ?_⟩;simp only[ah,seval,UD,c _ (U:kV (n/256)<=100)];refine bu aCc Y ⟨rfl,rfl,?_⟩;simp only[ak,mM,h1,↓reduceIte];rw[(atz:xy.wrap 8=8)];congr 1;exact(cq U U).trans U
def am5{b:Nat}(hb:b<=64):Pure pv main S 176 #[.int .i64 b] (.int .i64 (ng b:Nat)):=by
 intro s h;refine bL (args:=[.int .i64 b]) Tryz.func176 (by delta Tryz.f176;rfl) Tryz.ntmps176 Y O ?_;have e:xy.wrap ((b:Int)*78913)=((b*78913:Nat):Int):=by rw[(U:(b:Int)*78913=((b*78913:Nat):Int))];exact pT U (.inr (.inr rfl))
 have sh:∀{x y:su} {h:ae} [K:KK o5],al pv (bN .shr 3 x y (.int .i64 (b*78913:Nat)) (.int .u64 18)) h=K.f (.int .i64 (ng b:Nat)) h:=λ{x y h K}=>yP (k:=.i64) (k':=.u64) (a:=b*78913) (b:=18) rfl;simp only[ah,seval,e,sh];exact bu Tryz.results176 Y ⟨rfl,rfl,atA⟩
def am6{b:Bool}:Pure pv main S 178 #[.bool b] (.int .i64 (if b then 1 else 0)):=by intro s h;refine bL (args:=[.bool b]) Tryz.func178 (by delta Tryz.f178;rfl) Tryz.ntmps178 Y O ?_;cases b<;>simp only[ah,seval]<;>exact bu Tryz.results178 Y ⟨rfl,rfl,atA⟩
def am7{n:Nat}(h0:100<=n)(a:n<10000)(c:nR h):bo pv main S 156 #[.int .u64 n] s h λk h' v=>k=s/\h'=h/\v=.int .i64 (fP n:Nat):=by
 refine bL (args:=[.int .u64 n]) Tryz.func156 (by delta Tryz.f156;rfl) Tryz.ntmps156 Y O ?_;obtain⟨arr,q,f,w,g,d⟩:=c;obtain⟨m6,e⟩:=amY h0 a;have j:mM n<=64:=by
  unfold mM;split
  .have:=Fe (i:=n) U;omega
  .have:=Fe (i:=n/256) U;omega
 have l:=d _ m6;simp only[ah,seval];refine ev am1 (am4 a _ _) ?_;simp only[ah,seval];refine ev am0 (am5 j _ _) ?_;simp only[ah,seval,Uo,amZ,g,l];refine⟨U,U,?_⟩;refine ev am2 (am6 _ _) ?_;simp only[ah,seval];refine bu Tryz.results156 Y ⟨rfl,rfl,?_⟩;simp only[ak,↓reduceIte];congr 1;rw[<- e];have b:((n:Int)>=((10^ng (mM n):Nat):Int))↔n>=10^ng (mM n):=U
 by_cases hc:n>=10^ng (mM n)
 .rw[if_pos hc,decide_eq_true (b.2 hc)];exact(cq U U).trans Y
 .rw[if_neg hc,decide_eq_false (λq=>hc (b.1 q))];exact(cq U U).trans Y
end
def fL(k:Nat):UInt8:=avW (48+k)
def dec(n:Nat):List UInt8:=if n<10 then[fL n]else if n<100 then[fL (n/10),fL (n%10)]else if n<1000 then[fL (n/100),fL (n/10%10),fL (n%10)]else[fL (n/1000),fL (n/100%10),fL (n/10%10),fL (n%10)]
section
variable{main:Bool}{ai:Type}{S:Sys ai}{s:ai}{h:ae}
def UE{L:List UInt8}{f:Nat->List UInt8}{i N:Nat}{k k':E1}{K:o5->ae->Prop}(hi:i<N)(a b:Nat->Nat)(d:∀j:Fin N,a j.1<=b j.1/\b j.1<=L.length/\(L.drop (a j.1)).take (b j.1- a j.1)=f j.1)(u:K (au (f i)) h):@al pv _ (K0 9 (.string ⟨⟨L⟩⟩) (C (.int k (a i:Nat))) (C (.int k' (b i:Nat))) o0) h ⟨K⟩:=by
 obtain⟨h1,e,c⟩:=d ⟨i,hi⟩;rw[yO (K:=⟨K⟩) h1 e];simp only at c;rw[c];exact u
def am8:bz pv 155=J:=O
def am9{n:Nat}(a:n<100):Pure pv main S 155 #[.int .i64 n] (au (dec n)):=by
 intro s h;refine bL (args:=[.int .i64 n]) Tryz.func155 (by delta Tryz.f155;rfl) Tryz.ntmps155 Y O ?_;have b:xy.wrap ((n:Int)+1)=((n+1:Nat):Int):=(cq U U).trans U;have c:xy.wrap ((n:Int)*2)=((n*2:Nat):Int):=(cq U U).trans U;have d:xy.wrap (((n*2:Nat):Int)+2)=((n*2+2:Nat):Int):=(cq U U).trans U;by_cases h1:n<10
 .simp only[ah,seval,decide_eq_true (U:(n:Int)<10),b];refine UE (f:=λj=>[fL j]) h1 (λj=>j) (λj=>j+1) (by decide +kernel) ?_;simp only[ah,seval];exact bu aCd Y ⟨rfl,rfl,by simp[ak,dec,h1]⟩
 .simp only[ah,seval,decide_eq_false (U:¬(n:Int)<10),c,d];refine UE (f:=λj=>[fL (j/10),fL (j%10)]) a (λj=>j*2) (λj=>j*2+2) (by decide +kernel) ?_;simp only[ah,seval];exact bu aCd Y ⟨rfl,rfl,by simp[ak,dec,h1,a]⟩
end
def kO:Op->Bool
 | .store _ _ _=>J
 |_=>q9
def o8:Op->List Nat
 | .store _ x y=>mH x++mH y
 |o=>iW o
def UF:Op->Bool
 | .load _ _=>q9
 | .call _=>q9
 |o=>uJ o
section
variable{P:tb}{main:Bool}{ai:Type}{S:Sys ai}{b:aS}
def oG(P:tb)(op:Op)(f:su->o5)(h:ae)(K:ae->Prop):Prop:=match op with
 | .store t x y=>@bA _ _ (f x) ⟨λa=>@bA _ _ (f y) ⟨λb=>@al P _ (aub t a b) h ⟨λ_ h=>K h⟩⟩⟩
 |_=>False
def UG{op:Op}{f:su->o5}{h:ae}{K M:ae->Prop}(k:∀h,K h->M h)(u:oG P op f h K):oG P op f h M:=by cases op<;>first|exact u.elim|exact Go.Nk.lq P _ (λ_ h q=>k h q) u
def UH{o:sa}{e:Env}{d:List tc}{s:ai}{h:ae}{N:Env->List tc->ai->ae->Prop}(hd:o.dst=o0)(u:oG P o.op (aA e) h λh=>N e d s h):bP P main S b o e d s h N:=by obtain⟨dst,op,ty,pos,a,aT⟩:=o;cases hd;cases op<;>first|exact u.elim|exact u
def Mq{op:Op}(hs:kO op=J){e E:Env}(b:∀t∈o8 op,e t=E t){h:ae}{K:ae->Prop}:oG P op (aA e) h K=oG P op (aA E) h K:=by
 cases op<;>first|exact(W3 hs).elim|skip
 rename_i t x y;simp only[oG];rw[ku (x:=x) λt a=>b t (by simp[o8,a]),ku (x:=y) λt a=>b t (by simp[o8,a])]
def pU(P:tb)(main:Bool){ai:Type}(S:Sys ai)(b:aS)(s:ai):List sa->Env->ae->(Env->ae->Prop)->Prop
 | [],e,h,N=>N e h
 |o::l,e,h,N=>if kO o.op then ∃h',oG P o.op (aA e) h (λx=>x=h')/\pU P main S b s l e h' N
  else ∃v,(∀h,eV P main S b o.type o.op (aA e) s h λa h' c=>a=s/\h'=h/\c=v)/\pU P main S b s l (b7 e o.dst v) h N
def wI:List sa->Bool
 | []=>J
 |o::l=>cond (kO o.op) o.dst.isNone (uJ o.op)&&wI l
def jk(l:List sa)(i:Nat):Bool:=match l[i]? with|some o=>kO o.op|none=>q9
def kP(l:List sa)(i p:Nat):Bool:=match l[i]? with|some o=>o.after.toList.any λx=>atV .any x&&x.on==p|none=>q9
def ana(l:List sa):Bool:=(atG l.length).all λi=>(atG i).all λp=> !(jk l p&&jk l i)||kP l i p
def Ff:List sa->Bool
 | []=>J
 |o::l=>((o8 o.op).all λt=>(o::l).all λa=>a.dst != C t)&&Ff l
def anb(l:List sa)(o:sa):Bool:=(o8 o.op).all λt=>(l.all λa=>a.dst != C t)||(o.after.toList.any λx=>atV .any x&&((l[x.on]?).bind (·.dst)==C t))
def Mr{s:ai}:∀{l:List sa} {e:Env} {h:ae} {N:Env->ae->Prop},Ff l=J->mE l=J->wI l=J->pU P main S b s l e h N->∃(E:Env) (H:Nat->ae),H 0=h/\(∀t,l.all (λi=>i.dst != C t)=J->E t=e t)/\N E (H l.length)/\∀(j:Nat) (o:sa),l[j]? =C o->(kO o.op=J/\oG P o.op (aA E) (H j) (λx=>x=H (j+1)))\/(kO o.op=q9/\H (j+1)=H j/\∀h,eV P main S b o.type o.op (aA E) s h λq h' r=>q=s/\h'=h/\EP o.dst E r)
 | [],e,h,N,_,_,_,u=>⟨e,λ_=>h,rfl,λ_ _=>rfl,u,λj o c=>by simp at c⟩
 |o::l,e,h,N,h1,k,f,u=>by
  simp only[Ff,mE,vh]at h1 k;rw[pU]at u;simp only[wI,vh]at f;cases hs:kO o.op with
  |true=>
   rw[hs,cond_true]at f;rw[if_pos hs]at u;obtain⟨h',w,u⟩:=u;obtain⟨E,H,k0,g,m,n⟩:=Mr h1.2 k.2 f.2 u;refine⟨E,λj=>match j with|0=>h|j+1=>H j,rfl,λt a=> ?_,m,λj i c=> ?_⟩
   .simp only[avv,vh]at a;exact g t a.2
   .cases j with
    |zero=>
     simp at c;subst c;refine .inl ⟨hs,?_⟩;have p:∀t∈o8 o.op,E t=e t:=λt a=>by have:=G0.1 h1.1 t a;simp only[avv,vh]at this;exact g t this.2
     rw[Mq hs p];show oG P o.op (aA e) h λx=>x=H 0;rw[k0];exact w
    |succ j=>exact n j i (by simpa using c)
  |false=>
   rw[hs,cond_false]at f;rw[if_neg (by simp[hs])]at u;obtain⟨v,y,u⟩:=u;obtain⟨E,H,k0,g,m,n⟩:=Mr h1.2 k.2 f.2 u;have z:o8 o.op=iW o.op:=by cases A:o.op<;>first|rfl|(rw[A]at hs;cases hs)
   refine⟨E,λj=>match j with|0=>h|j+1=>H j,rfl,λt a=> ?_,m,λj i c=> ?_⟩
   .simp only[avv,vh]at a;rw[g t a.2];cases hd:o.dst with
    |none=>rfl
    |some d=>rw[eU,aL,if_neg (λe=>by rw[hd,e]at a;simp at a)]
   .cases j with
    |zero=>
     simp at c;subst c;refine .inr ⟨hs,k0,λh'=> ?_⟩;have p:∀t∈iW o.op,E t=e t:=λt a=>by
      have:=G0.1 h1.1 t (by rw[z];exact a);simp only[avv,vh]at this;rw[g t this.2];cases hd:o.dst with
      |none=>rfl
      |some d=>rw[eU,aL,if_neg (λe=>by rw[hd,e]at this;simp at this)]
     rw[yC f.1 p];refine yD (λq h' r ⟨B,D,F⟩=>⟨B,D,?_⟩) (y h');cases hd:o.dst with
     |none=>trivial
     |some d=>rw[TD,F,g d ?_,hd,eU,aL,if_pos rfl];have:=k.1.2;rw[hd]at this;simpa using this
    |succ j=>exact n j i (by simpa using c)
def Fg:∀{l:List sa},wI l=J->∀{i:Nat} {o:sa},l[i]? =C o->(kO o.op=J->o.dst=o0)/\(kO o.op=q9->uJ o.op=J)
 | [],_,i,o,hi=>by simp at hi
 |a::l,h,i,o,hi=>by
  simp only[wI,vh]at h;cases i with
  |zero=>
   simp at hi;subst hi;refine⟨λq=> ?_,λq=> ?_⟩
   .rw[q,cond_true]at h;exact Option.isNone_iff_eq_none.1 h.1
   .rw[q,cond_false]at h;exact h.1
  |succ i=>exact Fg h.2 (by simpa using hi)
def Ms{l:List sa}{d:List tc}{N:Env->List tc->ai->ae->Prop}(bs:P.follows .mixedOrders=J)(h1:mE l=J)(h2:l5 0 l=J)(h3:wI l=J)(h4:ana l=J)(h5:Ff l=J)(h6:(l.all λo=>anb l o)=J){e0:Env}{s:ai}{h0:ae}
  (u:pU P main S b s l e0 h0 λE h=>N E d s h) (t:Nat):fO P main S b l.toArray (atM (P.follows .mixedOrders) l.toArray t) e0 d s h0 N:=by
 obtain⟨E,H,k0,k1,k2,k3⟩:=Mr h5 h1 h3 u;have M:l.toArray.size=l.length:=Y
 have a8:∀n m,m+n<=l.length->(∀j,m<=j->j<m+n->jk l j=q9)->H m=H (m+n):=by
  intro n
  induction n with
  |zero=>intros;rfl
  |succ n ih=>
   intro m hm c;have hl:m+n<l.length:=U
   have I:=ih m U λj a b=>c j a U;have L:=c (m+n) U U;have hg:l[m+n]? =C l[m+n]:=by simp[hl]
   rw[I];rcases k3 _ _ hg with q|q
   .rw[jk,hg]at L;have W:kO l[m+n].op=q9:=L;rw[q.1]at W;cases W
   .rw[(U:m+(n+1)=m+n+1),q.2.1]
 unfold atM;rw[bs,awd,if_pos rfl];refine uu (by simpa using h2) (λD e s' h=>s'=s/\(∀t,l.all (λg=>g.dst != C t)=J->e t=e0 t)/\(∀(i:Nat) (o:sa) (t:Nat),l[i]? =C o->o.dst=C t->D i=J->e t=E t)/\∃m,m<=l.length/\h=H m/\∀j,j<l.length->jk l j=J->(D j=J↔j<m))
  (λD D' e s' h bb ⟨Q,F,G,m,q3,K,A⟩=> ?_) (λD e s' h i o ⟨Q,F,G,m,q3,K,A⟩ hi b4 R ag=> ?_) (λD e s' h ⟨Q,F,G,m,q3,K,A⟩ bd=> ?_) ⟨rfl,λ_ _=>rfl,λi o t _ _ B=>(W3 B).elim,0,Nat.zero_le _,k0.symm,λj _ _=>⟨λq=>(W3 q).elim,λq=>by omega⟩⟩ t
 .refine⟨Q,F,λi o t hi k B=>G i o t hi k (by rw[bb i (by rw[M];exact(F1.1 hi).1)];exact B),m,q3,K,λj c hs=> ?_⟩;rw[<- bb j (by rw[M];exact c)];exact A j c hs
 .subst Q;rw[M]at hi;have p:l[i]? =C o:=by simpa using R
  have hw:R9 o (jV l.toArray e)=J:=by simp[R9,uD h1 p]
  rw[if_pos hw];have b5:=G0.1 h6 o (aum p);have hr:∀t∈o8 o.op,e t=E t:=λt k=>by
   have:=G0.1 b5 t k;simp only[Bool.or_eq_true]at this;rcases this with q|q
   .rw[F t q,k1 t q]
   .rw[au2]at q;obtain⟨x,X,q⟩:=q;simp only[vh,beq_iff_eq]at q;obtain⟨g,b6,b8⟩:=Option.bind_eq_some_iff.1 q.2;exact G x.on g t b6 b8 (ag x (by simpa using X) q.1)
  obtain⟨c1,c2⟩:=Fg h3 p;have b9:∀(v:o5) (j:Nat) (g:sa) (f:Nat),l[j]? =C g->g.dst=C f->j≠i->b7 e o.dst v f=e f:=λv j g f c z r=>by
   cases k:o.dst with
   |none=>rfl
   |some t=>rw[eU,aL,if_neg (λe'=>r (uE h1 c p (by rw[z,k,e']) (by rw[z];simp)))]
  have un:∀(v:o5) f,l.all (λg=>g.dst != C f)=J->b7 e o.dst v f=e0 f:=λv f hn=>by
   cases k:o.dst with
   |none=>exact F f hn
   |some t=>
    rw[eU,aL,if_neg (λe'=>by have:=G0.1 hn o (aum p);rw[k,e']at this;simp at this)]
    exact F f hn
  refine vR (λe' d' s2 h' q=>q) (pz ?_);rcases k3 i o p with⟨hs,ca⟩|⟨hs,hH,hv⟩
  .have ea:m<=i:=by
    have:=A i hi (by rw[jk,p];exact hs);rw[b4]at this;rcases vy i m with q|q
    .exact absurd (this.2 q) Y
    .exact q
   have cc:H m=H i:=by
    have:=a8 (i- m) m U λj a bG=>by
     cases w:jk l j with
     |false=>rfl
     |true=>
      have r:j<i:=U
      have y:=G0.1 (G0.1 h4 i (by simp[hi])) j (by simp[r]);have a6:jk l i=J:=by rw[jk,p];exact hs
      rw[w,a6]at y;simp only[awj,avO,awc]at y;rw[kP,p]at y;simp only[au2,vh,beq_iff_eq]at y;obtain⟨x,X,I,L⟩:=y;have:=ag x (by simpa using X) I;rw[L]at this;have:=(A j U w).1 this;omega
    rw[(U:m+(i- m)=i)]at this;exact this
   have hd:=c1 hs;refine UH hd ?_;rw[Mq hs hr,K,cc];refine UG (λh' I=> ?_) ca;refine⟨rfl,rfl,F,λj g f c z B=> ?_,i+1,U,I,λj c w=> ?_⟩
   .have r:j≠i:=λe=>by subst e;rw[p]at c;cases c;rw[hd]at z;cases z
    simp only[if_neg r]at B;exact G j g f c z B
   .by_cases r:j=i
    .subst r;simp
    .simp only[if_neg r];rw[A j c w];constructor
     .intro;omega
     .intro eb;have ck:j<i:=U
      have y:=G0.1 (G0.1 h4 i (by simp[hi])) j (by simp[ck]);have a6:jk l i=J:=by rw[jk,p];exact hs
      rw[w,a6]at y;simp only[awj,avO,awc]at y;rw[kP,p]at y;simp only[au2,vh,beq_iff_eq]at y;obtain⟨x,X,I,L⟩:=y;have:=ag x (by simpa using X) I;rw[L]at this;exact(A j c w).1 this
  .have hc:=c2 hs;have cl:o8 o.op=iW o.op:=by cases R:o.op<;>first|rfl|(rw[R]at hs;cases hs)
   refine EN hc ?_;rw[yC hc (λt k=>hr t (by rw[cl];exact k))];refine yD (λs2 h' v ⟨r1,r2,r3⟩=> ?_) (hv h);subst r1;subst r2;refine⟨rfl,rfl,un v,λj g f c z B=> ?_,m,q3,K,λj c w=> ?_⟩
   .by_cases r:j=i
    .subst r;rw[p]at c;cases c;rw[z]at r3 ⊢;rw[eU,aL,if_pos rfl];exact r3
    .simp only[if_neg r]at B;rw[b9 v j g f c z r];exact G j g f c z B
   .have r:j≠i:=λe=>by subst e;rw[jk,p]at w;have W:kO o.op=J:=w;rw[hs]at W;cases W
    simp only[if_neg r];exact A j c w
 .subst Q;have hE:e=E:=by
   funext f;by_cases k:l.all (λg=>g.dst != C f)=J
   .rw[F f k,k1 f k]
   .rw[Bool.not_eq_true,List.all_eq_false]at k;obtain⟨o,R,hd⟩:=k;obtain⟨i,hi⟩:=List.mem_iff_getElem?.1 R;exact G i o f hi (by simpa using hd) (bd i (by rw[M];exact(F1.1 hi).1))
  have hH:H m=H l.length:=by
   have:=a8 (l.length- m) m U λj a bG=>by
    cases w:jk l j with
    |false=>rfl
    |true=>have:=(A j U w).1 (bd j (by rw[M];omega));omega
   rw[(U:m+(l.length- m)=l.length)]at this;exact this
  subst hE;rw[K,hH];exact k2
end
section
variable{P:tb}{main:Bool}{ai:Type}{S:Sys ai}{b:aS}{s:ai}{h:ae}{l:List sa}{e:Env}{N:Env->ae->Prop}{dst:Option Nat}{op:Op}{ty:Nat}{pos:String}{es:Array Edge}{g:Option (Nat×Bool)}
def Mt:pU P main S b s [] e h N=N e h:=rfl
def mi{v:o5}(hs:kO op=q9)(u:∀h,eV P main S b ty op (aA e) s h λa h' c=>a=s/\h'=h/\c=v)(k:pU P main S b s l (b7 e dst v) h N):pU P main S b s (⟨dst,op,ty,pos,es,g⟩::l) e h N:=by rw[pU,if_neg (by simp[hs])];exact⟨v,u,k⟩
def yQ{t:Nat}{x y:su}{h':ae}(u:oG P (.store t x y) (aA e) h (λx=>x=h'))(k:pU P main S b s l e h' N):pU P main S b s (⟨dst,.store t x y,ty,pos,es,g⟩::l) e h N:=by rw[pU,if_pos (atz:kO (Op.store t x y)=J)];exact⟨h',u,k⟩
end
def jq(j:Nat):Nat:=if j%2=0 then 48+j/2/10 else 48+j/2%10
section
variable{P:tb}{h:ae}{f:su->o5}{K:ae->Prop}{t:Nat}{x y:su}
def iF:oG P (.store t x y) f h K=@bA _ _ (f x) ⟨λa=>@bA _ _ (f y) ⟨λb=>@al P _ (aub t a b) h ⟨λ_ h=>K h⟩⟩⟩:=rfl
end
section
variable{main:Bool}{ai:Type}{S:Sys ai}{s:ai}{h:ae}
def UI:bz pv 157=J:=O
def UJ{b:aS}{kk:E1}{i:Int}[K:hA ai]:iw pv main S b 206 199 (.int kk i) s h=K.f s h (.int .u32 (aun.wrap i)):=wH azd aAB
def anc{b:aS}{kk:E1}{i:Int}[K:hA ai]:iw pv main S b 199 5 (.int kk i) s h=K.f s h (.int .u8 (ax5.wrap i)):=wH aAB awk
def ane{n c:Nat}{arr:Array o5}{q:Nat}(h0:100<=n)(N:n<1000)(g:h c=C ⟨.cells arr q (0,0),J⟩)(P:arr.size=24):bo pv main S 157 #[dn c 1 3 23,.int .u64 n] s h λB h' v=>B=s/\h'=h.put c ⟨.cells (((arr.setIfInBounds 3 (.int .u8 (48+n%10:Nat))).setIfInBounds 2 (.int .u8 (48+n/10%10:Nat))).setIfInBounds 1 (.int .u8 (48+n/100:Nat))) q (0,0),J⟩:=by
 refine bL (args:=[dn c 1 3 23,.int .u64 n]) aCe (by delta Tryz.f157;rfl) aCf Y O ?_;have o:aun.wrap (n:Int)=n:=pT U (.inr (.inl rfl));have D:∀{x y:su} {h:ae} [K:KK o5],al pv (bN .rem 199 x y (.int .u32 n) (.int .u32 100)) h=K.f (.int .u32 (n%100:Nat)) h:=λ{x y h K}=>Fc (k:=.u32) (a:=n) (b:=100) rfl;have E:∀{x y:su} {h:ae} [K:KK o5],al pv (bN .quo 199 x y (.int .u32 n) (.int .u32 100)) h=K.f (.int .u32 (n/100:Nat)) h:=λ{x y h K}=>A5 (k:=.u32) (a:=n) (b:=100) rfl rfl U;have p:aun.wrap (((n%100:Nat):Int)*2)=((n%100*2:Nat):Int):=by rw[(U:((n%100:Nat):Int)*2=((n%100*2:Nat):Int))];exact pT U (.inr (.inl rfl))
 simp only[ah,seval];refine du (I:=λk e d j l=>e 0=dn c 1 3 23/\e 1=.int .u64 n/\e 4=.int .i64 3/\d=[]/\j=s/\l=h) (λk e d j l r=> ?_) (m:=0) ⟨atA,atA,atA,rfl,rfl,rfl⟩;obtain⟨e0,F,i,rfl,rfl,rfl⟩:=r;simp only[ah,seval,F,i,UJ,o,D,E,p,fI];intro t;refine Ms eR O O O O O O ?_ t;have G:n%100*2+1<200:=U
 have u:aun.wrap (((n%100*2:Nat):Int)+1)=((n%100*2+1:Nat):Int):=by rw[(U:((n%100*2:Nat):Int)+1=((n%100*2+1:Nat):Int))];exact pT U (.inr (.inl rfl))
 have H:jq (n%100*2+1)=48+n%10:=by unfold jq;rw[if_neg U];omega
 have L:jq (n%100*2)=48+n/10%10:=by unfold jq;rw[if_pos U];omega
 have w:xy.wrap 2=2:=rfl;have z:xy.wrap 1=1:=rfl;have bM:(decide ((0:Int)<=2)&&decide ((2:Int)<((3:Nat):Int)))=J:=rfl;have bE:(decide ((0:Int)<=1)&&decide ((1:Int)<((3:Nat):Int)))=J:=rfl;have bZ:(2:Int).toNat=2:=rfl;have cU:(1:Int).toNat=1:=rfl
 repeat refine mi rfl (λh1=>by simp only[ah,seval,cJ,e0,i,w,z];exact rfl) ?_
 refine mi (v:=.int .u8 (48+n%10:Nat)) rfl (λh1=> ?_) ?_
 .simp only[ah,seval,cJ,u,fq];refine⟨U,uR (f:=jq) G (by decide +kernel) ?_⟩;rw[H];exact⟨rfl,rfl,rfl⟩
 repeat refine mi rfl (λh1=>by simp only[ah,seval,cJ];exact rfl) ?_
 refine mi (v:=.int .u8 (48+n/10%10:Nat)) rfl (λh1=> ?_) ?_
 .simp only[ah,seval,cJ,fq];refine⟨U,uR (f:=jq) (U:n%100*2<200) (by decide +kernel) ?_⟩;rw[L];exact⟨rfl,rfl,rfl⟩
 repeat refine mi rfl (λh1=>by simp only[ah,seval,cJ,bZ];exact rfl) ?_
 refine yQ (by simp only[ah,seval,iF,g,decide_eq_true (U:4<=arr.size)];exactλ_ e=>e) ?_
 repeat refine mi rfl (λh1=>by simp only[ah,seval,cJ,cU];exact rfl) ?_
 refine yQ (by simp only[ah,seval,iF,vK,oS,ax6,decide_eq_true (U:3<=arr.size)];exactλ_ e=>e) ?_;rw[Mt];have M:xy.wrap 1=1:=rfl;have A:aun.wrap (48+((n/100:Nat):Int))=((48+n/100:Nat):Int):=by rw[(U:48+((n/100:Nat):Int)=((48+n/100:Nat):Int))];exact pT U (.inr (.inl rfl))
 have b0:(decide ((0:Int)<=0)&&decide ((0:Int)<((3:Nat):Int)))=J:=rfl;simp only[ah,seval,e0,i,M,A,anc,A8 (U:48+n/100<256),(atz:(0:Int).toNat=0),vK,oS,ax6,decide_eq_true (U:1+1<=arr.size)];exactλh1 e=>me aCg ⟨rfl,e⟩
end
section
variable{main:Bool}{ai:Type}{S:Sys ai}{s:ai}{h:ae}
def anf{m:Nat}(a:m<100000):aun.wrap (m:Int)=m:=pT U (.inr (.inl rfl))
def UK{m:Nat}(a:m<100000):aun.wrap ((m:Int)*2)=((m*2:Nat):Int):=by rw[(U:(m:Int)*2=((m*2:Nat):Int))];exact pT U (.inr (.inl rfl))
def UL{m:Nat}(a:m<100000):aun.wrap ((m:Int)+1)=((m+1:Nat):Int):=by rw[(U:(m:Int)+1=((m+1:Nat):Int))];exact pT U (.inr (.inl rfl))
def ang{n c:Nat}{arr:Array o5}{q:Nat}(h0:1000<=n)(r:n<10000)(g:h c=C ⟨.cells arr q (0,0),J⟩)(Q:arr.size=24):bo pv main S 157 #[dn c 1 4 23,.int .u64 n] s h λB h' v=>B=s/\h'=h.put c ⟨.cells ((((arr.setIfInBounds 4 (.int .u8 (48+n%10:Nat))).setIfInBounds 3 (.int .u8 (48+n/10%10:Nat))).setIfInBounds 2 (.int .u8 (48+n/100%10:Nat))).setIfInBounds 1 (.int .u8 (48+n/1000:Nat))) q (0,0),J⟩:=by
 refine bL (args:=[dn c 1 4 23,.int .u64 n]) aCe (by delta Tryz.f157;rfl) aCf Y O ?_;have D:∀{x y:su} {h:ae} [K:KK o5],al pv (bN .rem 199 x y (.int .u32 n) (.int .u32 10000)) h=K.f (.int .u32 n) h:=λ{x y h K}=>by have:=Fc (P:=pv) (h:=h) (xt:=199) (x:=x) (y:=y) (K:=K) (k:=.u32) (a:=n) (b:=10000) rfl;rw[Nat.mod_eq_of_lt r]at this;exact this
 have E:∀{x y:su} {h:ae} [K:KK o5],al pv (bN .quo 199 x y (.int .u32 n) (.int .u32 10000)) h=K.f (.int .u32 (n/10000:Nat)) h:=λ{x y h K}=>A5 (k:=.u32) (a:=n) (b:=10000) rfl rfl U;have F:∀{x y:su} {h:ae} [K:KK o5],al pv (bN .quo 199 x y (.int .u32 n) (.int .u32 100)) h=K.f (.int .u32 (n/100:Nat)) h:=λ{x y h K}=>A5 (k:=.u32) (a:=n) (b:=100) rfl rfl U;have u:∀{x y:su} {h:ae} [K:KK o5],al pv (bN .rem 199 x y (.int .u32 n) (.int .u32 100)) h=K.f (.int .u32 (n%100:Nat)) h:=λ{x y h K}=>Fc (k:=.u32) (a:=n) (b:=100) rfl;have lo:n%100<100:=U
 have hi:n/100<100:=U
 simp only[ah,seval];refine du (I:=λk e d l o=>e 0=dn c 1 4 23/\e 1=.int .u64 n/\e 4=.int .i64 4/\d=[]/\l=s/\o=h) (λk e d l o w=> ?_) (m:=0) ⟨atA,atA,atA,rfl,rfl,rfl⟩;obtain⟨e0,G,j,rfl,rfl,rfl⟩:=w;simp only[ah,seval,G,j,UJ,anf (U:n<100000),D,E,F,u,UK (U:n%100<100000),UK (U:n/100<100000),fI];have H:xy.wrap 3=3:=rfl;have L:xy.wrap 2=2:=rfl;have M:xy.wrap 1=1:=rfl;have p:xy.wrap 0=0:=rfl;have b0:(decide ((0:Int)<=0)&&decide ((0:Int)<((4:Nat):Int)))=J:=rfl;have bM:(decide ((0:Int)<=1)&&decide ((1:Int)<((4:Nat):Int)))=J:=rfl;have bE:(decide ((0:Int)<=2)&&decide ((2:Int)<((4:Nat):Int)))=J:=rfl;have R:(decide ((0:Int)<=3)&&decide ((3:Int)<((4:Nat):Int)))=J:=rfl;have N:(0:Int).toNat=0:=rfl;have bZ:(1:Int).toNat=1:=rfl;have cU:(2:Int).toNat=2:=rfl;have jA:(3:Int).toNat=3:=rfl;have z:=UL (U:n%100*2<100000);have A:=UL (U:n/100*2<100000);have i:∀m,m<100->jq (m*2+1)=48+m%10/\jq (m*2)=48+m/10:=λm W=>by unfold jq;rw[if_neg U,if_pos U];omega
 intro t;refine Ms eR O O O O O O ?_ t
 repeat refine mi rfl (λh1=>by simp only[ah,seval,cJ,e0,j,H,L,z];exact rfl) ?_
 refine mi (v:=.int .u8 (48+n%10:Nat)) rfl (λh1=> ?_) ?_
 .simp only[ah,seval,cJ,fq];refine⟨U,uR (f:=jq) (U:(n%100)*2+1<200) (by decide +kernel) ?_⟩;rw[(i _ U).1,(U:(n%100)%10=n%10)];exact⟨rfl,rfl,rfl⟩
 repeat refine mi rfl (λh1=>by simp only[ah,seval,cJ];exact rfl) ?_
 refine mi (v:=.int .u8 (48+n/10%10:Nat)) rfl (λh1=> ?_) ?_
 .simp only[ah,seval,cJ,fq];refine⟨U,uR (f:=jq) (U:(n%100)*2<200) (by decide +kernel) ?_⟩;rw[(i _ U).2,(U:(n%100)/10=n/10%10)];exact⟨rfl,rfl,rfl⟩
 repeat refine mi rfl (λh1=>by simp only[ah,seval,cJ,jA];exact rfl) ?_
 refine yQ (by simp only[ah,seval,iF,g,decide_eq_true (U:5<=arr.size)];exactλ_ e=>e) ?_
 repeat refine mi rfl (λh1=>by simp only[ah,seval,cJ,cU];exact rfl) ?_
 refine yQ (by simp only[ah,seval,iF,vK,oS,ax6,decide_eq_true (U:4<=arr.size)];exactλ_ e=>e) ?_;rw[Mt];simp only[ah,seval,fI];intro t;refine Ms eR O O O O O O ?_ t
 repeat refine mi rfl (λh1=>by simp only[ah,seval,cJ,e0,j,M,p,A];exact rfl) ?_
 refine mi (v:=.int .u8 (48+n/100%10:Nat)) rfl (λh1=> ?_) ?_
 .simp only[ah,seval,cJ,fq];refine⟨U,uR (f:=jq) (U:(n/100)*2+1<200) (by decide +kernel) ?_⟩;rw[(i _ U).1,(U:(n/100)%10=n/100%10)];exact⟨rfl,rfl,rfl⟩
 repeat refine mi rfl (λh1=>by simp only[ah,seval,cJ];exact rfl) ?_
 refine mi (v:=.int .u8 (48+n/1000:Nat)) rfl (λh1=> ?_) ?_
 .simp only[ah,seval,cJ,fq];refine⟨U,uR (f:=jq) (U:(n/100)*2<200) (by decide +kernel) ?_⟩;rw[(i _ U).2,(U:(n/100)/10=n/1000)];exact⟨rfl,rfl,rfl⟩
 repeat refine mi rfl (λh1=>by simp only[ah,seval,cJ,bZ];exact rfl) ?_
 refine yQ (by simp only[ah,seval,iF,vK,oS,ax6,decide_eq_true (U:3<=arr.size)];exactλ_ e=>e) ?_
 repeat refine mi rfl (λh1=>by simp only[ah,seval,cJ,N];exact rfl) ?_
 refine yQ (by simp only[ah,seval,iF,vK,oS,ax6,decide_eq_true (U:2<=arr.size)];exactλ_ e=>e) ?_;rw[Mt];simp only[ah,seval,j,p];exact me aCg ⟨rfl,rfl⟩
end
def dR(l:List UInt8):List o5:=l.map λw=>.int .u8 w.toNat
section
variable{P:tb}{h:ae}
def UM(a:List UInt8)(w:UInt8):(⟨⟨a⟩⟩:ByteArray).push w=⟨⟨a++[w]⟩⟩:=by apply ByteArray.ext;apply auT.1;simp[ByteArray.push]
def anh{b o n d:Nat}{bs:List UInt8}(hc:h.iS ⟨b,o,o0⟩ 0 n=C (dR bs))(Q:o5->ae->Prop):aH P (Conv.bytesToString (dn b o n d)) h Q=Q (au bs) h:=by
 unfold Conv.bytesToString;simp only[aJ];rw[Hk hc];simp only[List.forIn_toArray];have key:∀(bs a:List UInt8) (R:ByteArray->ae->Prop),aH P (forIn (dR bs) (⟨⟨a⟩⟩:ByteArray) λc s=>(match c with|.int .u8 n=>pure (ForInStep.yield (s.push (avW n.toNat)))|_=>(do stuck "bytesToString: byte expected";pure (ForInStep.yield s)):Sem (ForInStep ByteArray))) h R=R ⟨⟨a++bs⟩⟩ h:=by
  intro bs
  induction bs with
  |nil=>intro a R;simp[dR,aR]
  |cons w bs e=>intro a R;have:=e (a++[w]) R;simp only[dR,atS,List.forIn_cons,aJ,aR]at this ⊢;rw[UM,(Y:avW ((w.toNat:Int).toNat)=w),this];simp
 exact(key bs [] _).trans (by rw[awC,aR])
def Mu{t u e b o n a:Nat}{bs:List UInt8}{main:Bool}{ai:Type}{S:Sys ai}{fb:aS}{s:ai}(c:P.underlying t=C (.slice e))(d:P.underlying e=C (.int .u8))(f:P.underlying u=C .string)(hc:h.iS ⟨b,o,o0⟩ 0 n=C (dR bs)){K:ai->ae->o5->Prop}(k:K s h (au bs)):@iw P main _ S fb t u (dn b o n a) s h ⟨K⟩:=by show @al P _ (atU t u (dn b o n a)) h ⟨λv h=>K s h v⟩;simp only[al,atU,aJ,c0,c,f,d];rw[anh hc];exact k
def Fh{t c n e lo hi:Nat}(a:P.underlying t=C (.array n e))(b:cu P e=C 1)(h1:lo<=hi)(d:hi<=n)(f:n≠lo){K:o5->ae->Prop}(k:K (dn c (0+lo) (hi- lo) (n- lo)) h):@al P _ (K0 t (aV c 0) (C (.int .i64 lo)) (C (.int .i64 hi)) o0) h ⟨K⟩:=by simp only[al,K0,aJ,c0,a,Instr.sureAddr,aR];refine Ct (.inl ⟨_,rfl,d⟩) (.inl ⟨_,rfl,h1⟩) _ ?_;simp only[gD,b,if_neg f,kU,avV];exact k
end
section
variable{main:Bool}{ai:Type}{S:Sys ai}{s:ai}{h:ae}
def uS{k:Nat}(a:k<10):Value.int .u8 ((fL k).toNat:Nat)=.int .u8 (48+k:Nat):=by
 have:(fL k).toNat=48+k:=by unfold fL;simp;omega
 rw[this]
def ani:bz pv 109=J:=O
def anj:bz pv 71=J:=O
def Mv:bz pv 36=J:=O
def ank:uL pv 274=J:=O
def Fi:(qR pv 274).size=24:=O
def Fj:pv.underlying 274=C (.array 24 5):=O
def gA:cu pv 5=C 1:=O
def anl{b:aS}{kk:E1}{i:Int}[K:hA ai]:iw pv main S b 2 206 (.int kk i) s h=K.f s h (.int .u64 (avU.wrap i)):=wH (by kernel_rfl:pv.underlying 2=C (.int .i64)) azd
def anm{n:Nat}(m:n<10000)(o:nR h):bo pv main S 109 #[.int .i64 n,.int .i64 10] s h λt h' v=>t=s/\h.ar h'/\v=au (dec n):=by
 refine bL (args:=[.int .i64 n,.int .i64 10]) Tryz.func109 (by delta Tryz.f109;rfl) Tryz.ntmps109 Y O ?_;have w:((10:Int)==10)=J:=rfl;by_cases h1:n<100
 .simp only[ah,seval,decide_eq_true (U:(0:Int)<=n),decide_eq_true (U:(n:Int)<100)];refine ev am8 (am9 h1 _ _) ?_;simp only[ah,seval];exact bu aAC Y ⟨rfl,.cO _,atA⟩
 .have p:avU.wrap (n:Int)=n:=pT U (.inl rfl);simp only[ah,seval,decide_eq_true (U:(0:Int)<=n),decide_eq_false (U:¬(n:Int)<100),ank];intro c x hc k;have f:=bU hc k;have l:=bw k;simp only[ah,seval,anl,p,decide_eq_false (U:¬(n:Int)<0)];refine cd am3 (am7 U m (nR.le f o)) λfe y v ⟨b,a,q⟩=> ?_;subst b;subst a;subst q;have u:xy.wrap (1+((fP n:Nat):Int))=((1+fP n:Nat):Int):=by
   have:fP n<=4:=by unfold fP;split<;>omega
   rw[cq U U];omega
  simp only[ah,seval,u];by_cases e:n<1000
  .skip
   have g:fP n=3:=by unfold fP;rw[if_pos e]
   rw[g];refine Fh (lo:=1) (hi:=1+3) Fj gA U U aty ?_;simp only[ah,seval];refine cd UI (ane U U l Fi) λr h4 v ⟨b,a⟩=> ?_;subst b;have j:=bw a;have i:h.ar h4:=dM f hc a;simp only[ah,seval,decide_eq_false (U:¬(n:Int)<0)];refine Fh (lo:=1) (hi:=1+3) Fj gA U U aty ?_;simp only[ah,seval];refine Mu (bs:=[fL (n/100),fL (n/10%10),fL (n%10)]) aw8 awk awi ?_ ?_
   .rw[iX j];have d:=Fi;generalize qR pv 274=arr at d;show lP 1 3 _=_;simp only[dR,atS,awD,uS (U:n/100<10),uS (U:n/10%10<10),uS (U:n%10<10)];simp[lP,d,qB]
   .simp only[ah,seval];exact bu aAC Y ⟨rfl,i,by simp[ak,dec,h1,(U:¬n<10),e]⟩
  .skip
   have g:fP n=4:=by unfold fP;rw[if_neg e]
   rw[g];refine Fh (lo:=1) (hi:=1+4) Fj gA U U aty ?_;simp only[ah,seval];refine cd UI (ang U U l Fi) λr h4 v ⟨b,a⟩=> ?_;subst b;have j:=bw a;have i:h.ar h4:=dM f hc a;simp only[ah,seval,decide_eq_false (U:¬(n:Int)<0)];refine Fh (lo:=1) (hi:=1+4) Fj gA U U aty ?_;simp only[ah,seval];refine Mu (bs:=[fL (n/1000),fL (n/100%10),fL (n/10%10),fL (n%10)]) aw8 awk awi ?_ ?_
   .rw[iX j];have d:=Fi;generalize qR pv 274=arr at d;show lP 1 4 _=_;simp only[dR,atS,awD,uS (U:n/1000<10),uS (U:n/100%10<10),uS (U:n/10%10<10),uS (U:n%10<10)];simp[lP,d,qB]
   .simp only[ah,seval];exact bu aAC Y ⟨rfl,i,by simp[ak,dec,h1,(U:¬n<10),e]⟩
def ann{n:Nat}(a:n<10000)(b:nR h):bo pv main S 71 #[.int .i64 n] s h λf h' v=>f=s/\h.ar h'/\v=au (dec n):=by refine bL (args:=[.int .i64 n]) Tryz.func71 (by delta Tryz.f71;rfl) Tryz.ntmps71 Y O ?_;simp only[ah,seval];refine cd ani (anm a b) λg i v ⟨c,d,e⟩=> ?_;subst c;subst e;simp only[ah,seval];exact bu Tryz.results71 Y ⟨rfl,d,atA⟩
def ano{n:Nat}(a:n<10000)(b:nR h):bo pv main S 36 #[.int .i64 n] s h λf h' v=>f=s/\h.ar h'/\v=au (dec n):=by refine bL (args:=[.int .i64 n]) Tryz.func36 (by delta Tryz.f36;rfl) Tryz.ntmps36 Y O ?_;simp only[ah,seval];refine cd anj (ann a b) λg i v ⟨c,d,e⟩=> ?_;subst c;subst e;simp only[ah,seval];exact bu Tryz.results36 Y ⟨rfl,d,atA⟩
end
section
variable{P:tb}{h:ae}
def A9{c:Nat}{arr:Array o5}{q:Nat}{f:Nat×Nat}{w:Bool}(g:h c=C ⟨.cells arr q f,w⟩)(Q:Option (ta×Nat)->ae->Prop):aH P (shape c) h Q=Q (C (q,arr.size)) h:=by show((h c).isSome=J/\Q (h.shape? c) h)=_;simp[ae.shape?,g]
def UN{c:Nat}{arr:Array o5}{q:Nat}{f:Nat×Nat}{w:Bool}(g:h c=C ⟨.cells arr q f,w⟩)(Q:vm->ae->Prop):aH P (Conv.seenAt ⟨c,0,o0⟩) h Q=Q ⟨c,0,o0⟩ h:=by simp only[Conv.seenAt,viewAt,aJ];rw[A9 g];simp only[Option.isSome_some,if_true,aR]
def anp{t u e c:Nat}{arr:Array o5}{q:Nat}{f:Nat×Nat}{w:Bool}{main:Bool}{ai:Type}{S:Sys ai}{fb:aS}{s:ai}(b:P.underlying t=C (.pointer e))(i:P.underlying u=C .unsafePointer)(hs:(cu P e).isSome=J/\mh P e≠0)(g:h c=C ⟨.cells arr q f,w⟩)(l:0<arr.size){K:ai->ae->o5->Prop}(k:K s h (aV c 0)):@iw P main _ S fb t u (aV c 0) s h ⟨K⟩:=by
 obtain⟨m,a⟩:=aud.1 hs.1;have d:m≠0:=by have:=hs.2;simpa[mh,a]using this
 show(if(h c).isSome then @al P _ (atU t u (aV c 0)) h ⟨λv h=>K s h v⟩else _);rw[if_pos (by rw[g];rfl)];simp only[al,atU,aJ,c0,b,i,Conv.unsafePointer];rw[UN g];simp only[cellsIn,aJ];rw[A9 g];simp only[aR,gD,a];have j:(decide (m=0)||(decide (0>=arr.size)&&(o0:Option Nat).isNone))=q9:=by rw[decide_eq_false d,decide_eq_false U];rfl
 rw[if_neg (by rw[j];exact W3)];exact k
def anq{t u e c:Nat}{arr:Array o5}{q:Nat}{f:Nat×Nat}{w:Bool}{main:Bool}{ai:Type}{S:Sys ai}{fb:aS}{s:ai}(b:P.underlying t=C (.pointer e))(i:P.underlying u=C .unsafePointer)(hs:(cu P e).isSome=J/\mh P e≠0)(g:h c=C ⟨.cells arr q f,w⟩)(d:ax7 P P.depth q (arr.size/P.cellsOf q) 0 e 1=J){K:ai->ae->o5->Prop}(k:K s h (aV c 0)):@iw P main _ S fb u t (aV c 0) s h ⟨K⟩:=by
 obtain⟨m,a⟩:=aud.1 hs.1;have j:m≠0:=by have:=hs.2;simpa[mh,a]using this
 show(if(h c).isSome then @al P _ (atU u t (aV c 0)) h ⟨λv h=>K s h v⟩else _);rw[if_pos (by rw[g];rfl)];simp only[al,atU,aJ,c0,b,i,Conv.unsafePointer];rw[UN g];simp only[aAD,aJ,gD,a,mq];rw[A9 g];simp only[aR,d,Bool.or_true,if_true];exact k
end
section
variable{P:tb}{h:ae}{t e:Nat}{x y:su}
def anr(a:P.underlying t=C (.pointer e)){Q:Bool->ae->Prop}:aH P (auz t (.pointer o0) (.pointer o0)) h Q=Q J h:=by rw[vP];generalize 9999=d;rw[at1];simp only[aJ,c0,a];rfl
def ans(b:P.underlying t=C (.pointer e)){a:vm}{Q:Bool->ae->Prop}:aH P (auz t (.pointer (C a)) (.pointer o0)) h Q=Q q9 h:=by rw[vP];generalize 9999=d;rw[at1];simp only[aJ,c0,b];rfl
def ant(b:P.underlying t=C (.pointer e)){m:Nat}(hs:cu P e=C (m+1)){a:vm}{Q:Bool->ae->Prop}:aH P (auz t (.pointer (C a)) (.pointer (C a))) h Q=Q J h:=by rw[vP];generalize 9999=d;rw[at1];simp only[aJ,c0,b,gD,hs];simp[sameAddr,aR]
def anu(a:P.underlying t=C (.pointer e))[K:KK o5]:al P (bN .eql t x y (.pointer o0) (.pointer o0)) h=K.f (.bool J) h:=by have q:(do W2 .eql t x y (.pointer o0) (.pointer o0);binOp .eql t (.pointer o0) (.pointer o0):Sem o5)=(do pure (.bool (<- auz t (.pointer o0) (.pointer o0)))):=rfl;unfold al bN;rw[q,aJ,anr a,aR]
def anv(b:P.underlying t=C (.pointer e)){a:vm}[K:KK o5]:al P (bN .eql t x y (.pointer (C a)) (.pointer o0)) h=K.f (.bool q9) h:=by have q:(do W2 .eql t x y (.pointer (C a)) (.pointer o0);binOp .eql t (.pointer (C a)) (.pointer o0):Sem o5)=(do pure (.bool (<- auz t (.pointer (C a)) (.pointer o0)))):=rfl;unfold al bN;rw[q,aJ,ans b,aR]
def anw(b:P.underlying t=C (.pointer e)){m:Nat}(hs:cu P e=C (m+1)){a:vm}[K:KK o5]:al P (bN .neq t x y (.pointer (C a)) (.pointer (C a))) h=K.f (.bool q9) h:=by have q:(do W2 .neq t x y (.pointer (C a)) (.pointer (C a));binOp .neq t (.pointer (C a)) (.pointer (C a)):Sem o5)=(do pure (.bool (!(<- auz t (.pointer (C a)) (.pointer (C a)))))):=rfl;unfold al bN;rw[q,aJ,ant b hs,aR];rfl
end
section
variable{main:Bool}{ai:Type}{S:Sys ai}{s:ai}{h:ae}
def anx:bz pv 70=J:=O
def UO:cu pv 89=C (1+1):=O
def anz:ax7 pv pv.depth 89 (2/pv.cellsOf 89) 0 89 1=J:=O
def UP:(cu pv 89).isSome=J/\mh pv 89≠0:=by rw[mh,UO];exact⟨rfl,aty⟩
def UQ:pv.underlying 170=C .unsafePointer:=O
def anA{x y:su}[K:KK o5]:al pv (bN .eql 86 x y (.pointer o0) (.pointer o0)) h=K.f (.bool J) h:=anu ax8
def anB{x y:su}{a:vm}[K:KK o5]:al pv (bN .eql 86 x y (.pointer (C a)) (.pointer o0)) h=K.f (.bool q9) h:=anv ax8
def anC{x y:su}{a:vm}[K:KK o5]:al pv (bN .neq 86 x y (.pointer (C a)) (.pointer (C a))) h=K.f (.bool q9) h:=anw ax8 UO
def anD{P:tb}{x:o5}{K:o5->ae->Prop}(k:K x h):@al P _ (Extern.AbiNoEscape.same #[x]) h ⟨K⟩:=k
def anE{c:Nat}{p sl:o5}(a:p=.pointer o0\/p=aV c 0)(g:h c=C ⟨.cells #[p,sl] 89 (0,0),J⟩):bo pv main S 70 #[aV c 0] s h λb h' v=>b=s/\h'=h.put c ⟨.cells #[aV c 0,sl] 89 (0,0),J⟩:=by
 refine bL (args:=[aV c 0]) Tryz.func70 (by delta Tryz.f70;rfl) Tryz.ntmps70 Y O ?_;rcases a with rfl|rfl
 .simp only[ah,seval,g,anA];refine anp ax8 UQ UP g Y ?_;simp only[ah,seval];refine ej.native (K:=⟨_⟩) Tryz.func108 O O O (x:=Extern.AbiNoEscape.same) O ?_;refine anD ?_;simp only[ah,seval];refine anq ax8 UQ UP g anz ?_;simp only[ah,seval,g];exactλh1 e=>me aCl ⟨rfl,e⟩
 .simp only[ah,seval,g,anB,anC];exact me aCl ⟨rfl,(lN g).symm⟩
end
def UR{P:tb}{h:ae}{K:o5->ae->Prop}{t cU c e bs:Nat}{ty:ta}{z:o5}(q:P.underlying t=C (.slice c))(r:P.underlying cU=C .string)(hs:cu P c=C e)(f:l1 P c=C bs)(s:fw P c=C z)(l:z.cells.size=e)(u:1<=e)(G:1<=bs)
  {base:Option vm} {len cap:Nat} {i:List UInt8} {m:Nat} {new':List o5} (x:m=(⟨⟨i⟩⟩:ByteArray).size) (n:∀Q,aH P (avy e m (au i)) h Q=Q ⟨new'⟩ h)
  (y:len+m<=cap->match base with|some a=>nx h (a.add (len*e)) 0 new' (λh=>K (.slice base (len+m) cap) h)|none=>K (.slice base (len+m) cap) h)
  (nI:cap<len+m->len+m<=200000/\bs<=1000/\∃g,(∀Q,aH P (avy e len (.slice base len cap)) h Q=Q ⟨g⟩ h)/\∀j,len+m<=j->∀b,h b=o0->∀rest:List o5,rest.length=(j- (len+m))*e->K (.slice (C ⟨b,0,o0⟩) (len+m) j) (h.put b ⟨.cells ⟨g++new'++rest⟩ c,J⟩)):
  aH P (auY ⟨[t,cU]⟩ ty ⟨[.slice base len cap,au i]⟩) h K:=by
 subst x;generalize v:(⟨⟨i⟩⟩:ByteArray).size=m at*
 obtain⟨d,k,o⟩:∃d,P.info? c=C d/\d.bytes=bs:=by
  unfold l1 at f;cases p:P.info? c with
  |none=>rw[p]at f;cases f
  |some d=>rw[p]at f;cases f;exact⟨d,rfl,rfl⟩
 simp only[auY,au1,au8,List.getElem?_cons_succ,aJ,c0,q,r,gD,hs,aR,N2,if_false,Builtin.lenOf,v,Bool.not_false,if_true];by_cases hc:len+m<=cap
 .rw[if_pos hc];simp only[aJ,n];have:=y hc;cases base with
  |none=>exact this
  |some a=>simp only[aJ,zI];exact this
 .rw[if_neg hc];obtain⟨H,A,g,B,D⟩:=nI U;simp only[aJ];rw[um k];have bK:¬(((len+m:Nat):Int)>xy.max/\(False\/d.bytes=0)):=by
   rw[o];rintro⟨_,h|h⟩
   .exact h
   .omega
  have bR:¬(axt (len+m) cap*d.bytes>2^48):=by
   have E:=OX (U:cap<len+m);have I:axt (len+m) cap*d.bytes<=(2*(len+m)+300)*1000:=Nat.mul_le_mul E (by rw[o];exact A);have:(2*(len+m)+300)*1000<=2^48:=U
   omega
  rw[if_neg (by simpa using bK)];simp only[aJ];rw[um k,if_neg bR];simp only[aJ,xc,Question.forced,N2,if_false];intro mR;rw[um k];simp only[Cx,B,n,kH,s,newRow,aJ,qo,aR];intro b hb;have w:len+m<=(awB (len+m) cap c).cut mR:=by show len+m<=len+m+_;exact Nat.le_add_right _ _
  have:=D _ w b hb (awA z.cells ((awB (len+m) cap c).cut mR- (len+m))).toList (by rw[Hl l u];simp only[Cs,Array.length_toList,l]);have F:(⟨g⟩++⟨new'⟩++awA z.cells ((awB (len+m) cap c).cut mR- (len+m)):Array o5)=⟨g++new'++(awA z.cells ((awB (len+m) cap c).cut mR- (len+m))).toList⟩:=by apply auT.1;simp
  rw[F];exact this
def rY(h0 h:ae)(sl:o5)(l:List UInt8):Prop:=(l=[]/\sl=.slice o0 0 0)\/∃b a arr,sl=dn b 0 l.length a/\h0 b=o0/\h b=C ⟨.cells arr 5 (0,0),J⟩/\arr.size=a/\l.length<=a/\arr.toList.take l.length=dR l
def US(l m:List UInt8):dR (l++m)=dR l++dR m:=by simp[dR]
def yR(l:List UInt8):(dR l).length=l.length:=by simp[dR]
def UT{P:tb}{h:ae}{m:List UInt8}(Q:Array o5->ae->Prop):aH P (avy 1 m.length (au m)) h Q=Q ⟨dR m⟩ h:=by
 have:(((⟨⟨m⟩⟩:ByteArray).extract 0 m.length).data.map λb=>Value.int .u8 b.toNat)=⟨dR m⟩:=by rw[lM];apply auT.1;simp[dR]
 show aH P (pure _) h Q=_;rw[aR,this]
def Ba{arr:Array o5}:∀(n o:Nat),o+n<=arr.size->lP o n arr=C ((arr.toList.drop o).take n)
 | 0,o,_=>by simp[lP]
 |n+1,o,h=>by
  rw[lP,Ba n (o+1) U];have a:o<arr.size:=U
  rw[Array.getElem?_eq_getElem a];have:arr.toList.drop o=arr[o]::arr.toList.drop (o+1):=by rw[List.drop_eq_getElem_cons (by simpa using a)];simp
  rw[this];rfl
def Mw:∀(vs:List o5) (o:Nat) (arr:Array o5),o+vs.length<=arr.size->((vs.foldl (λa v=>(a.1+1,a.2.setIfInBounds a.1 v)) (o,arr)).2.size=arr.size)/\((vs.foldl (λa v=>(a.1+1,a.2.setIfInBounds a.1 v)) (o,arr)).2.toList.take (o+vs.length)=arr.toList.take o++vs)
 | [],o,arr,_=>by simp
 |v::vs,o,arr,h=>by
  rw[List.foldl_cons];simp only[RF]at h;obtain⟨a,b⟩:=Mw vs (o+1) (arr.setIfInBounds o v) atB;refine⟨a.trans Y,?_⟩;rw[RF,(U:o+(vs.length+1)=o+1+vs.length),b];have c:o<arr.toList.length:=atB
  rw[Array.toList_setIfInBounds,atC,List.take_set_of_le (Nat.le_refl _),List.getElem?_set_self c];simp
def qN:fw pv 5=C (.int .u8 0):=O
def UU:l1 pv 5=C 1:=O
def anF{h0 h:ae}{sl:o5}{l m:List UInt8}{ty:Nat}(le:h0.ar h)(q:rY h0 h sl l)(f:l.length+m.length<=200000){K:o5->ae->Prop}
  (kk:∀g h',h0.ar h'->rY h0 h' g (l++m)->K g h'):@al pv _ (auY #[87,9] ty #[sl,au m]) h ⟨K⟩:=by
 have Fl:cu pv 5=C 1:=O
 have p:∀(e:List o5) (a:Nat),e=dR l->l.length+m.length<=a->∀b,h b=o0->∀rest:List o5,rest.length=(a- (l.length+m.length))*1->K (.slice (C ⟨b,0,o0⟩) (l.length+m.length) a) (h.put b ⟨.cells ⟨e++dR m++rest⟩ 5,J⟩):=by
  intro e a t hc b hb rest d;subst t;refine kk _ _ (le.ay (gW hb)) (.inr ⟨b,a,⟨dR l++dR m++rest⟩,Y,?_,cI,?_,by simpa using hc,?_⟩)
  .cases w:h0 b with
   |none=>rfl
   |some x=>rw[le b x w]at hb;cases hb
  .simp[yR,d];omega
  .rw[US];show((dR l++dR m)++rest).take (l++m).length=_;rw[List.take_left' (by simp[yR])]
 rcases q with⟨rfl,rfl⟩|⟨b,r,arr,rfl,j,hb,u,hc,k⟩
 .refine UR (m:=m.length) aw8 awi Fl UU qN rfl aty aty rfl (λQ=>UT Q) (λhc=> ?_) (λhc=>⟨by simpa using f,aty,[],λQ=>by show aH pv (pure #[]) h Q=_;rw[aR],λdq h1 b hb rest d=> ?_⟩)
  .have:m=[]:=by cases m<;>simp at hc ⊢
   subst this;exact kk _ _ le (.inl ⟨rfl,rfl⟩)
  .simpa using p [] dq rfl h1 b hb rest d
 .refine UR (m:=m.length) aw8 awi Fl UU qN rfl aty aty rfl (λQ=>UT Q) (λn=> ?_) (λn=>⟨by simpa using f,aty,dR l,λQ=> ?_,λdq h1 bG v rest d=> ?_⟩)
  .have s:=EW (h:=h) (c:=b) (q:=5) (vs:=dR m) (arr:=arr) (o:=l.length) (i:=0) (K:=λh=>K (dn b 0 (l.length+m.length) r) h) (by simp[dR,jG]) (by rw[yR];omega);rw[lN hb,Nat.add_zero]at s;obtain⟨da,dQ⟩:=Mw (dR m) l.length arr (by rw[yR];omega);have y:=s.mpr ?_
   .simp only[kU,avV,Nat.zero_add];exact y.2
   .refine kk _ _ (dM le j rfl) (.inr ⟨b,r,_,Y,j,cI,da.trans u,by simpa using n,?_⟩);rw[US,<- k,M3,<- yR m,dQ]
  .refine(uo (vs:=dR l) ?_ Q);rw[iX hb,Ba _ _ U];simp[k]
  .exact p (dR l) dq rfl h1 bG v rest d
section
variable{P:tb}{fn:Func}{ai:Type}{n:Nat}{gQ:ai->ae->o5->Prop}{e:Env}{s:ai}{h:ae}
def gT{a b:Nat}(c:fn.results=#[.tmp a,.tmp b])(d:a<n)(hb:b<n)(p:gQ s h (.tuple #[e a,e b])):dT P fn gQ n e [] s h:=by simp only[dT,jU,results,c,aJ];simp[aR,d,hb,Array.getD];exact p
end
def UW:dL:=⟨.cells #[] 0 (0,0),J⟩
def j8(h0 h:ae)(c:Nat)(l:List UInt8):Prop:=h0.ar h/\h0 c=o0/\∃p a,(p=.pointer o0\/p=aV c 0)/\h c=C ⟨.cells #[p,a] 89 (0,0),J⟩/\rY (h0.put c UW) h a l
def UX{h:ae}{c b:Nat}{x y:dL}:(h.put c x) b=o0↔(h.put c y) b=o0:=by unfold ae.put;split<;>simp
def rY.mono{h0 a h h':ae}{sl:o5}{l:List UInt8}(k:∀b,h0 b=o0->a b=o0)(c:∀b x,h0 b=o0->h b=C x->h' b=C x)(q:rY h0 h sl l):rY a h' sl l:=by
 rcases q with q|⟨b,d,arr,e,a1,a2,a3⟩
 .exact .inl q
 .exact .inr ⟨b,d,arr,e,k _ a1,c _ _ a1 a2,a3⟩
def rY.slice{h0 h:ae}{sl:o5}{l:List UInt8}(q:rY h0 h sl l):∃a n c,sl=.slice a n c:=by
 rcases q with⟨_,e⟩|⟨b,d,arr,e,_⟩
 .exact⟨_,_,_,e⟩
 .exact⟨_,_,_,e⟩
def j8.le{h0 h h':ae}{c:Nat}{l:List UInt8}(q:j8 h0 h c l)(le:h.ar h'):j8 h0 h' c l:=let⟨a,b,p,d,c1,c2,c3⟩:=q;⟨a.ay le,b,p,d,c1,le _ _ c2,c3.mono (λ_ q=>q) λb x _ e=>le b x e⟩
def j8.bS{h0 h:ae}{c d:Nat}{x:dL}{l:List UInt8}(q:j8 h0 h c l)(hd:h d=o0):j8 (h0.put d x) (h.put d x) c l:=by
 obtain⟨a,b,p,j,c1,c2,c3⟩:=q;have f:d≠c:=λe=>by subst e;rw[hd]at c2;cases c2
 refine⟨λb y hb=> ?_,by rw[bx (Ne.symm f)];exact b,p,j,c1,by rw[bx (Ne.symm f)];exact c2,?_⟩
 .by_cases e:b=d
  .subst e;rw[cI]at hb ⊢;exact hb
  .rw[bx e]at hb ⊢;exact a _ _ hb
 .rcases c3 with q|⟨b,k,arr,e,a1,a2,a3⟩
  .exact .inl q
  .have g:b≠d:=λe=>by subst e;rw[hd]at a2;cases a2
   refine .inr ⟨b,k,arr,e,?_,by rw[bx g];exact a2,a3⟩;by_cases i:b=c
   .subst i;rw[cI]at a1;cases a1
   .rw[bx i]at a1 ⊢;rw[bx g];exact a1
section
variable{main:Bool}{ai:Type}{S:Sys ai}{s:ai}{h0 h:ae}
def Mx:bz pv 35=J:=O
def My{c:Nat}{l m:List UInt8}(q:j8 h0 h c l)(t:l.length+m.length<=200000):bo pv main S 35 #[aV c 0,au m] s h λA h' v=>A=s/\j8 h0 h' c (l++m):=by
 refine bL (args:=[aV c 0,au m]) Tryz.func35 (by delta Tryz.f35;rfl) Tryz.ntmps35 Y O ?_;obtain⟨a,b,p,G,c1,c2,c3⟩:=q;simp only[ah,seval];refine cd anx (anE c1 c2) λH h2 v ⟨u,g⟩=> ?_;subst u;have B:=bw g;obtain⟨x,n,f,rfl⟩:=c3.slice;simp only[ah,seval,B];have c4:rY (h0.put c UW) h2 (.slice x n f) l:=c3.mono (λ_ q=>q) λd y hd i=>by subst g;rw[bx (λe=>by subst e;rw[cI]at hd;cases hd)];exact i
 have c5:rY (h0.put c ⟨.cells #[aV c 0,.slice x n f] 89 (0,0),J⟩) h2 (.slice x n f) l:=c4.mono (λ_ q=>UX.1 q) λ_ _ _ q=>q;have w:(h0.put c ⟨.cells #[aV c 0,.slice x n f] 89 (0,0),J⟩).ar h2:=λd y hd=>by
  subst g;by_cases e:d=c
  .subst e;rw[cI]at hd ⊢;exact hd
  .rw[bx e]at hd ⊢;exact a _ _ hd
 refine anF w c5 t λF I k o=> ?_;obtain⟨x',D,z,rfl⟩:=o.slice;have E:=k _ _ cI;simp only[ah,seval,E];intro K j;simp only[ah,seval,eH];refine gT Tryz.results35 Y Y ⟨rfl,?_⟩;refine⟨λd y hd=> ?_,b,aV c 0,.slice x' D z,.inr rfl,by subst j;rw[cI],?_⟩
 .have r:d≠c:=λe=>by subst e;rw[b]at hd;cases hd
  subst j;rw[bx r];exact k _ _ (by rw[bx r];exact hd)
 .refine o.mono (λ_ q=>UX.1 q) λd y hd i=> ?_;subst j;rw[bx (λe=>by subst e;rw[cI]at hd;cases hd)];exact i
end
section
variable{P:tb}{h:ae}
def anG{fits:ta->Bool}{d e a n:Nat}(f:P.cellsOf e=1)(b:n<=a)(c:fits e=J):rowAt P fits (d+1) e a 0 n=J:=by rw[rowAt];simp[f,b,c]
def anH{d e a n:Nat}(hd:P.depth=d+1)(c:P.cellsOf e=1)(b:n<=a)(hs:aAF P P.depth e e=J):ax7 P P.depth e a 0 e n=J:=by
 have:ax7 P (d+1) e a 0 e n=J:=by rw[ax7,hd,anG c b (by rw[<- hd];exact hs),awd]
 rw[<- hd]at this;exact this
def anI{d c e n:Nat}{arr:Array o5}{f:Nat×Nat}{w:Bool}(hd:P.depth=d+1)(a:P.cellsOf e=1)(hs:aAF P P.depth e e=J)(g:h c=C ⟨.cells arr e f,w⟩)(b:n<=arr.size)(Q:Bool->ae->Prop):aH P (aAD ⟨c,0,o0⟩ e n) h Q=Q J h:=by simp only[aAD,aJ,mq];rw[A9 g];simp only[aR,a,Nat.div_one,anH hd a b hs]
def UY{c:Nat}{arr:Array o5}{f:Nat×Nat}{q:Nat}{w:Bool}(g:h c=C ⟨.cells arr q f,w⟩):∀(l:List UInt8) (o:Nat) (b:List UInt8) (Q:ByteArray->ae->Prop),lP o l.length arr=C (dR l)->aH P (ax9 ⟨c,o,o0⟩ ⟨⟨b⟩⟩ l.length) h Q=Q ⟨⟨b++l⟩⟩ h
 | [],o,b,Q,_=>by simp[ax9,aR]
 |x::l,o,b,Q,a=>by
  rw[RF,LX]at a;cases d:arr[o]? with
  |none=>rw[d]at a;cases a
  |some v=>
   rw[d]at a;cases e:lP (o+1) l.length arr with
   |none=>rw[e]at a;cases a
   |some vs=>
    rw[e]at a;have i:v::vs=.int .u8 x.toNat::dR l:=Option.some.inj a;obtain⟨rfl,rfl⟩:=List.cons.inj i;have j:=UY g l (o+1) (b++[x]) Q e;rw[RF,ax9];simp only[aJ];have hc:h.cell? ⟨c,o,o0⟩=C (.int .u8 x.toNat):=by simp[ae.cell?,g,d]
    have k:(Addr.add ⟨c,o,o0⟩ 1)=⟨c,o+1,o0⟩:=rfl;rw[BS,hc];show aH P (ax9 (Addr.add ⟨c,o,o0⟩ 1) ((⟨⟨b⟩⟩:ByteArray).push ((x.toNat:Int).toNat.toUInt8)) l.length) h Q=_;rw[k,(Y:((x.toNat:Int).toNat.toUInt8)=x),UM,j];simp
end
section
variable{h:ae}
def anJ:pv.underlying 148=C (.pointer 5):=O
def anK:pv.cellsOf 5=1:=O
def anL:aAF pv pv.depth 5 5=J:=O
def anM:∃d,pv.depth=d+1:=⟨2*(pv.types.size+Made.depth)+1,rfl⟩
def anN{c:Nat}{arr:Array o5}{l:List UInt8}(g:h c=C ⟨.cells arr 5 (0,0),J⟩)(a:lP 0 l.length arr=C (dR l))(b:l.length<=arr.size)(o:0<l.length)(p:l.length<=1000000){ty:ta}{K:o5->ae->Prop}(k:K (au l) (h.freeze ⟨c,0,o0⟩ l.length)):@al pv _ (ayC #[148,3] ty #[aV c 0,.int .i64 l.length]) h ⟨K⟩:=by
 have e0:¬((l.length:Int)<0):=U
 have f:¬((l.length:Int)>xy.max):=by rw[(O:xy.max=9223372036854775807)];omega
 have i:¬((l.length:Int)=0):=U
 obtain⟨d,hd⟩:=anM;have j:=λQ=>anI (P:=pv) (n:=l.length) hd anK anL g b Q;have b0:=λQ=>UY (P:=pv) g l 0 [] Q a;have e:∀Q:ByteArray->ae->Prop,aH pv (ax9 ⟨c,0,o0⟩ ByteArray.empty l.length) h Q=Q ⟨⟨l⟩⟩ h:=λQ=>(b0 Q).trans (by rw[awC]);have m:∀Q:Unit->ae->Prop,aH pv (freeze ⟨c,0,o0⟩ l.length) h Q=Q () (h.freeze ⟨c,0,o0⟩ l.length):=λQ=>by simp[freeze,aH,ae.owns,ae.shape?,g]
 unfold al;rw[(atz:ayC #[148,3] ty #[aV c 0,.int .i64 l.length]=bind (asInt (.int .i64 l.length)) _)];simp only[asInt,asIntOf,aJ,aR,au1,au8,if_neg e0,if_neg f,if_neg i,elemOf,c0,anJ,Int.toNat_natCast,j,e,m,if_true];exact k
def anO{c n a:Nat}{dD:Array Nat}{ty:ta}(hc:a≠0){K:o5->ae->Prop}(k:K (aV c 0) h):@al pv _ (ayD dD ty #[dn c 0 n a]) h ⟨K⟩:=by unfold al;rw[(atz:ayD dD ty #[dn c 0 n a]=if a≠0 then pure (aV c 0)else _),if_pos hc,aR];exact k
end
section
variable{main:Bool}{ai:Type}{S:Sys ai}{s:ai}{h0 h:ae}
def anP:bz pv 37=J:=O
def UZ{h:ae}{a:vm}{n b:Nat}(hb:b≠a.block):(h.freeze a n) b=h b:=by
 unfold ae.freeze;by_cases c:n=0
 .simp[c]
 .rw[if_neg c];cases d:h a.block with
  |none=>rfl
  |some x=>obtain⟨o,p⟩:=x;cases o<;>first|rfl|exact bx hb
def anQ{c:Nat}{l:List UInt8}(q:j8 h0 h c l)(B:0<l.length)(K:l.length<=1000000):bo pv main S 37 #[aV c 0] s h λk h' v=>k=s/\h0.ar h'/\v=au l:=by
 refine bL (args:=[aV c 0]) Tryz.func37 (by delta Tryz.f37;rfl) Tryz.ntmps37 Y O ?_;obtain⟨a,b,p,Q,c1,c2,c3⟩:=q;rcases c3 with⟨rfl,_⟩|⟨d,cap,arr,rfl,iK,dH,d2,js,jJ⟩
 .simp at B
 have D:d≠c:=λe=>by subst e;rw[cI]at iK;cases iK
 have L:h0 d=o0:=by rw[bx D]at iK;exact iK
 have P:lP 0 l.length arr=C (dR l):=by rw[Ba _ _ U];simpa using jJ
 simp only[ah,seval,fI];intro t;refine LN (l:=_) O O eR 10 (λn i v r=>match i with
   | 0=>v=aV c 0|1=>v=aV c 0|2=>v=aV c 1|3=>v=dn d 0 l.length cap|4=>v=aV d 0|5=>v=aV c 0|6=>v=aV c 0|7=>v=aV c 1|8=>v=dn d 0 l.length cap
   | 9=>v=.int .i64 l.length|10=>v=au l|11=>v=au l|_=>True) (λ_ _ _ _ _ _ q=>q) (λ_ k=>k=s)
  (λh1 y=>y=h1.freeze ⟨d,0,o0⟩ l.length) (λn r=>h0.ar r/\r c=C ⟨.cells #[p,dn d 0 l.length cap] 89 (0,0),J⟩/\(n=q9->r d=C ⟨.cells arr 5 (0,0),J⟩))
  (λn h1 y le ⟨m,u,E⟩=>⟨m.ay le,le _ _ u,λe=>le _ _ (E e)⟩)
  (λh1 y ⟨m,u,E⟩ e=>by
   subst e;refine⟨λb x hb=> ?_,?_,λe=>(by cases e)⟩
   .rw[UZ (λe=>by rw[e]at hb;rw[L]at hb;cases hb)];exact m b x hb
   .rw[UZ (Ne.symm D)];exact u)
  ⟨a,c2,λ_=>dH⟩ (λ_ _ _ _ _ q=>q) rfl ?_ ?_ t
 .intro i o hi g k h1 n ⟨F,A,G⟩ H w M j;have w:k=s:=w;subst w;have I:g 0=aV c 0:=by rw[H 0 rfl];simp[ak]
  match i,hi with
  | 0,hi=>
   cases hi;simp only[ah,seval,I]
   first|exact⟨rfl,_,rfl,rfl,λ_ _ e=>e,rfl⟩|exact⟨_,rfl,rfl,λ_ _ e=>e,rfl⟩|exact⟨_,rfl,λ_ _ e=>e,rfl⟩
  | 1,hi=>
   cases hi;have f:g 3=aV c 0:=j 0 3 rfl rfl;simp only[ah,seval,f]
   first|exact⟨rfl,_,rfl,rfl,λ_ _ e=>e,rfl⟩|exact⟨_,rfl,rfl,λ_ _ e=>e,rfl⟩|exact⟨_,rfl,λ_ _ e=>e,rfl⟩
  | 2,hi=>
   cases hi;have f:g 4=aV c 0:=j 1 4 rfl rfl;simp only[ah,seval,f]
   first|exact⟨rfl,_,rfl,rfl,λ_ _ e=>e,rfl⟩|exact⟨_,rfl,rfl,λ_ _ e=>e,rfl⟩|exact⟨_,rfl,λ_ _ e=>e,rfl⟩
  | 3,hi=>
   cases hi;have f:g 5=aV c 1:=j 2 5 rfl rfl;simp only[ah,seval,f,A]
   first|exact⟨rfl,_,rfl,rfl,λ_ _ e=>e,rfl⟩|exact⟨_,rfl,rfl,λ_ _ e=>e,rfl⟩|exact⟨_,rfl,λ_ _ e=>e,rfl⟩
  | 4,hi=>
   cases hi;have f:g 6=dn d 0 l.length cap:=j 3 6 rfl rfl;simp only[ah,seval,f];refine anO U ?_
   first|exact⟨rfl,_,rfl,rfl,λ_ _ e=>e,rfl⟩|exact⟨_,rfl,rfl,λ_ _ e=>e,rfl⟩|exact⟨_,rfl,λ_ _ e=>e,rfl⟩
  | 5,hi=>
   cases hi;simp only[ah,seval,I]
   first|exact⟨rfl,_,rfl,rfl,λ_ _ e=>e,rfl⟩|exact⟨_,rfl,rfl,λ_ _ e=>e,rfl⟩|exact⟨_,rfl,λ_ _ e=>e,rfl⟩
  | 6,hi=>
   cases hi;have f:g 8=aV c 0:=j 5 8 rfl rfl;simp only[ah,seval,f]
   first|exact⟨rfl,_,rfl,rfl,λ_ _ e=>e,rfl⟩|exact⟨_,rfl,rfl,λ_ _ e=>e,rfl⟩|exact⟨_,rfl,λ_ _ e=>e,rfl⟩
  | 7,hi=>
   cases hi;have f:g 9=aV c 0:=j 6 9 rfl rfl;simp only[ah,seval,f]
   first|exact⟨rfl,_,rfl,rfl,λ_ _ e=>e,rfl⟩|exact⟨_,rfl,rfl,λ_ _ e=>e,rfl⟩|exact⟨_,rfl,λ_ _ e=>e,rfl⟩
  | 8,hi=>
   cases hi;have f:g 10=aV c 1:=j 7 10 rfl rfl;simp only[ah,seval,f,A]
   first|exact⟨rfl,_,rfl,rfl,λ_ _ e=>e,rfl⟩|exact⟨_,rfl,rfl,λ_ _ e=>e,rfl⟩|exact⟨_,rfl,λ_ _ e=>e,rfl⟩
  | 9,hi=>
   cases hi;have f:g 11=dn d 0 l.length cap:=j 8 11 rfl rfl;simp only[ah,seval,f]
   first|exact⟨rfl,_,rfl,rfl,λ_ _ e=>e,rfl⟩|exact⟨_,rfl,rfl,λ_ _ e=>e,rfl⟩|exact⟨_,rfl,λ_ _ e=>e,rfl⟩
  | 10,hi=>
   cases hi;have f:g 7=aV d 0:=j 4 7 rfl rfl;have m:g 12=.int .i64 l.length:=j 9 12 rfl rfl;have hc:=M rfl;simp only[ah,seval,f,m];refine anN (G hc) P U B K ?_
   first|exact⟨rfl,_,rfl,rfl,rfl,rfl⟩|exact⟨_,rfl,rfl,rfl,rfl⟩|exact⟨_,rfl,rfl,rfl⟩
  | 11,hi=>
   cases hi;have f:g 13=au l:=j 10 13 rfl rfl;simp only[ah,seval,f]
   first|exact⟨rfl,_,rfl,rfl,λ_ _ e=>e,rfl⟩|exact⟨_,rfl,rfl,λ_ _ e=>e,rfl⟩|exact⟨_,rfl,λ_ _ e=>e,rfl⟩
  |i+12,hi=>simp at hi
 .intro g k h1 ⟨F,A,G⟩ H N z;have z:k=s:=z;subst z;simp only[ah,seval];exact bu Tryz.results37 Y ⟨rfl,F,N 11 2 rfl⟩
end
def dJ(i:Int):List UInt8:=dec i.toNat
def nS(i:Int):Prop:=0<=i/\i<10000
def qT(ns:List Int):List UInt8:=ns.flatMap λn=>32::dJ n
def gB(w:List UInt8)(ns:List Int):List UInt8:=w++qT ns++[10]
def qU{α β:Type}{f:α->List β}{l:List α}{i:Nat}(h:i<l.length):(l.take (i+1)).flatMap f=(l.take i).flatMap f++f l[i]:=by
 have:l.take (i+1)=l.take i++[l[i]]:=by rw[atC];simp[h]
 rw[this,List.flatMap_append];simp only[ax4,List.flatMap_nil,List.append_nil]
def qV{n:Nat}:(dec n).length<=4:=by
 unfold dec;split
 .simp
 .split
  .simp
  .split<;>simp
def Fo:∀(ns:List Int),(qT ns).length<=5*ns.length
 | []=>by simp[qT]
 |n::ns=>by
  have:=Fo ns;have:=@qV n.toNat;simp only[qT,ax4,M3,RF,dJ]at*
  omega
section
variable{main:Bool}{ai:Type}{S:Sys ai}{s:ai}{h0 h:ae}
def yS:bz pv 34=J:=O
def Mz{i:Int}(hi:nS i)(a:nR h):bo pv main S 36 #[.int .i64 i] s h λb h' v=>b=s/\h.ar h'/\v=au (dJ i):=by
 have e:i=(i.toNat:Int):=by have:=hi.1;omega
 rw[e];exact ano (by have:=hi.2;omega) a
def yT{c:Nat}{l w:List UInt8}{v:o5}{ns:List Int}(q:j8 h0 h c l)(H:ig h0 v ns)(L:∀n∈ns,nS n)(M:nR h0)(hl:l.length+w.length<=100000)(hk:ns.length<=100):bo pv main S 34 #[au w,v,aV c 0] s h λs' h' z=>s'=s/\j8 h0 h' c (l++gB w ns):=by
 refine bL (args:=[au w,v,aV c 0]) Tryz.func34 (by delta Tryz.f34;rfl) Tryz.ntmps34 Y O ?_;obtain⟨b,o,n,N,rfl,D,hb⟩:=H;simp only[List.length_map]at D;subst D;simp only[ah,seval];refine cd Mx (My q U) λs2 h2 z ⟨j,p⟩=> ?_;subst j;simp only[ah,seval];refine du (I:=λk e d E G=>∃i:Nat,k=ns.length- i/\i<=ns.length/\e 2=aV c 0/\e 9=.slice b ns.length N/\e 10=.int .i64 ns.length/\e 11=.int .i64 i/\d=[]/\E=s2/\j8 h0 G c (l++(w++qT (ns.take i)))) (λk e d E G P=> ?_) (m:=ns.length) ⟨0,Y,Y,atA,atA,atA,atA,rfl,rfl,by simpa[qT]using p⟩;obtain⟨i,rfl,hi,u,F,r,t,rfl,rfl,g⟩:=P;rcases vy i ns.length with hc|hc
 .obtain⟨mb,rfl,arr,q,f,w',hm,Q⟩:=hb.resolve_left U;have g1:arr[o+i]? =C (.int .i64 ns[i]):=by simpa[bO]using Q i [bO ns[i]] (by simp[hc]) 0 _ rfl
  have R:=g.1 _ _ hm;have bd:decide ((i:Int)<ns.length)=J:=atB
  simp only[ah,seval,F,r,t,R,g1,bd];refine cd Mv (Mz (L _ (List.getElem_mem _)) (nR.le g.1 M)) λfe h3 z ⟨j,p,W⟩=> ?_;subst j;subst W;have a6:=Fo (ns.take i);have ld:=@qV (ns[i]).toNat;have X:∀{x y:su} {h:ae} [K:KK o5],al pv (bN .add 9 x y (.string ⟨#[32]⟩) (au (dJ ns[i]))) h=K.f (au (32::dJ ns[i])) h:=λ{x y h K}=>ma (a:=[32]) (b:=dJ ns[i]) (by simp[dJ];omega);simp only[ah,seval,u,X];refine cd Mx (My (m:=32::dJ ns[i]) (g.le p) ?_) λs4 h4 z ⟨A,B⟩=> ?_
  .simp only[M3,RF,dJ]at*
   have:(ns.take i).length<=100:=atB
   omega
  subst A;simp only[ah,seval,t];refine⟨_,?_,i+1,rfl,U,by simp[u],by simp[F],by simp[r],by simp[cq (x:=(i:Int)+1) U U],?_⟩
  .omega
  .have:qT (ns.take (i+1))=qT (ns.take i)++32::dJ ns[i]:=qU hc;rw[this];simpa[auN]using B
 .have:i=ns.length:=U
  subst this;rw[List.take_length]at g;simp only[ah,seval,r,t,u,decide_eq_false (U:¬((ns.length:Nat):Int)<ns.length)];have a6:=Fo ns;refine cd Mx (My (m:=[10]) g ?_) λs4 h4 z ⟨A,B⟩=> ?_
  .simp only[M3,RF,List.length_nil]at*
   omega
  subst A;simp only[ah,seval];exact me Tryz.results34 ⟨rfl,by simpa[gB,auN]using B⟩
end
end
end Go.Nk
