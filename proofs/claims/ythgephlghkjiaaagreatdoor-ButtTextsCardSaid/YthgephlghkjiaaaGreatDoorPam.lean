/- Part Pam of the proof of ButtTexts: lemmas. -/
import Derived.Conc.QuitsD
import Derived.Test.YthgephlghkjiaaaGreatDoorPaj
import Derived.Test.YthgephlghkjiaaaGreatDoorPal
set_option maxRecDepth 100000
set_option maxHeartbeats 4000000
set_option linter.all false
namespace Go.Nk
noncomputable section
open Go Go.Conc Go.Proofs
open _root_.Array renaming toList_inj->auT,getElem?_eq_some_iff->auv
open Bool renaming true->J,false->q9,true_and->awQ,false_and->auH,and_eq_true->vh,not_eq_true'->avp,and_false->auV,and_true->awH
open Go renaming Program->tb,TypeId->ta,Value->o5,IntKind->E1,Operand->su,eqGuard->W2,FuncId->vb,Frame->vH,Oper->sa,stepG->vx,Deferred->tc,unwind->avm,doReturn->av3,callFunc->av6,Code->rj
open Go.Conc renaming seen_none->auL
open Go.GStep renaming after->atZ
open Go.Instr renaming fieldAt->at3,index->auG,sliceAt->K0,slice->awX,sliceBounds->awz,enterLoop->aw5,endLoop->av4,beginRound->awo,endRound->ave,getLoop->aBL
open Go.Proofs.Tryz renaming prog->pv,underlying131->aBJ,results101->aBK,underlying25->ay1,func141->az8,results141->az9
open Go.Region renaming wanted->R9,binds->atV,schedule->atM
open Go.Sem renaming runT_eq->auP
open Go.stepG renaming exec->atK
open List renaming mem_append->D3,all_eq_true->G0,mem_of_getElem?->aum,mem_cons->B4,not_mem_nil->auo,map_cons->atS,map_nil->awD
open Nat renaming beq->td,eq_of_beq_eq_true->atP
open Ne renaming symm->zz
open Option renaming some->C,none->o0,isSome_iff_exists->aud,bind_eq_some_iff->auK
section
variable{P:tb}{main:Bool}{ai:Type}{S:Sys ai}{b:aS}{s:ai}{h:ae}
def jK{t:ta}{A:Addr}{arr:Array o5}{ty:ta}{aK:Nat×Nat}{own:Bool}{v:o5}(a:fS P t=C o0)(hb:h A.block=C ⟨.cells arr ty aK,own⟩)(hs:A.spot=o0)(c:arr[A.off]? =C v)[K:hA ai]:eX P main S b t (.pointer (C A)) s h=K.f s h v:=by
 have e:h.cell? A=C v:=by unfold ae.cell?;rw[hb];simp[hs,c]
 rw[ua (K:=K) hb,GW (K:=⟨λv h=>K.f s h v⟩) a,e];rfl
def gW{c:Nat}{x:dL}(hc:h c=o0):h.ar (h.put c x):=λb y hb=>by
 unfold ae.put;split
 .rename_i e;subst e;rw[hc]at hb;cases hb
 .exact hb
def le_trans{h h' a:ae}(p:h.ar h')(q:h'.ar a):h.ar a:=λb x e=>q b x (p b x e)
def cI{c:Nat}{x:dL}:h.put c x c=C x:=by simp[ae.put]
def bx{c d:Nat}{x:dL}(a:d≠c):h.put c x d=h d:=by simp[ae.put,a]
def wh:fS pv 3=C o0:=O
def Au:fS pv 58=C o0:=O
def ae1{m:Nat}[K:KK o5]:al pv (at3 131 (.pointer (C ⟨m,0,o0⟩)) 0) h=K.f (.pointer (C ⟨m,0,o0⟩)) h:=m1 (ft:=58) (m:=0) (i:=0) aBJ rfl rfl O
def JE{m:Nat}[K:KK o5]:al pv (at3 131 (.pointer (C ⟨m,0,o0⟩)) 1) h=K.f (.pointer (C ⟨m,1,o0⟩)) h:=m1 (ft:=3) (m:=0) (i:=1) aBJ rfl rfl O
end
section
variable{main:Bool}{ai:Type}{Sy:Sys ai}{s:ai}{h:ae}
def yi(p k:Nat)(n:Int):o5:=.agg #[.slice (C ⟨p,0,o0⟩) 2 k,.int .i64 n]
def ae2:bz pv 101=J:=O
def ae3{p q k m:Nat}{o M:Bool}{a b c d:bX}{n n':Int}(B:a∈dm)(hb:b∈dm)(hc:c∈dm)(hd:d∈dm)(D:p≠q)(E:iA h p k [a,b] o)(F:iA h q m [c,d] M):bo pv main Sy 101 #[yi p k n,yi q m n'] s h λw h' v=>w=s/\h.ar h'/\v=.bool (decide (n<n'\/(n=n'/\uA a b c d<0))):=by
 refine bL (n:=21) (args:=[yi p k n,yi q m n']) Tryz.func101 ach rfl Y aci ?_;simp only[aO,seval,acg,acf,ace,yi,vJ,JE];intro c1 G c2 f;have r:c2≠c1:=λe=>by subst e;rw[cI]at f;cases f
 have S:h c2=o0:=by rw[bx r]at f;exact f
 generalize x:h.put c1 ⟨.cells (Value.agg #[.slice (C ⟨p,0,o0⟩) 2 k,.int .i64 n]).cells 131,J⟩=h1 at f ⊢;generalize l:h1.put c2 ⟨.cells (Value.agg #[.slice (C ⟨q,0,o0⟩) 2 m,.int .i64 n']).cells 131,J⟩=h2;have g:h.ar h2:=by rw[<- l];exact le_trans (by rw[<- x];exact gW G) (gW f)
 have y:h2 c1=C ⟨.cells #[.slice (C ⟨p,0,o0⟩) 2 k,.int .i64 n] 131,J⟩:=by rw[<- l,bx (zz r),<- x,cI];rfl
 have z:h2 c2=C ⟨.cells #[.slice (C ⟨q,0,o0⟩) 2 m,.int .i64 n'] 131,J⟩:=by rw[<- l,cI];rfl
 have t:∀(b:aS) (K:ai->ae->o5->Prop),@eX pv main _ Sy b 3 (.pointer (C ⟨c1,1,o0⟩)) s h2 ⟨K⟩=K s h2 (.int .i64 n):=λb K=>jK (K:=⟨K⟩) wh (A:=⟨c1,1,o0⟩) y rfl rfl;have u:∀(b:aS) (K:ai->ae->o5->Prop),@eX pv main _ Sy b 3 (.pointer (C ⟨c2,1,o0⟩)) s h2 ⟨K⟩=K s h2 (.int .i64 n'):=λb K=>jK (K:=⟨K⟩) wh (A:=⟨c2,1,o0⟩) z rfl rfl;have H:∀(b:aS) (K:ai->ae->o5->Prop),@eX pv main _ Sy b 58 (.pointer (C ⟨c1,0,o0⟩)) s h2 ⟨K⟩=K s h2 (.slice (C ⟨p,0,o0⟩) 2 k):=λb K=>jK (K:=⟨K⟩) Au (A:=⟨c1,0,o0⟩) y rfl rfl;have I:∀(b:aS) (K:ai->ae->o5->Prop),@eX pv main _ Sy b 58 (.pointer (C ⟨c2,0,o0⟩)) s h2 ⟨K⟩=K s h2 (.slice (C ⟨q,0,o0⟩) 2 m):=λb K=>jK (K:=⟨K⟩) Au (A:=⟨c2,0,o0⟩) z rfl rfl;by_cases i:n=n'
 .have j:(n != n')=q9:=by rw[i];simp
  simp only[aO,seval,t,u,JE,j,PR,acb,ae1,H,I];obtain⟨N,L⟩:=aaS (main:=main) (Sy:=Sy) (s:=s) B hb hc hd D (E.le g) (F.le g);refine .inl ⟨N,L.mono λw h' v ⟨P,Q,R⟩=> ?_⟩;subst P;subst R;simp only[aO,seval];refine bu aBK Y ?_;refine⟨rfl,le_trans g Q,?_⟩;simp[aL,i]
 .have j:(n != n')=J:=by simpa using i
  simp only[aO,seval,t,u,j,PR,acd,JE];refine bu aBK Y ?_;refine⟨rfl,g,?_⟩;simp[aL,i]
end
abbrev au(l:List UInt8):o5:=.string ⟨⟨l⟩⟩
def Av(o:Option UInt8)[K:xu o5 Prop]:Prop:=match o with|some w=>K.f (.int .u8 w.toNat)|none=>False
def fJ(w:UInt8)(K:o5->Prop):@Av (C w) ⟨K⟩=K (.int .u8 w.toNat):=rfl
section
variable{P:tb}{h:ae}
def JF{k:E1}{i:Int}{n:Nat}{c:BoundsCode}{α:Type}{Q:α->ae->Prop}:aH P (boundsPanic k i (↑n) c:Sem α) h Q=False:=by
 have a:∀s,∀h,aH P (runtimePanic (.bounds (IntKind.i64.wrap i) n s c):Sem α) h Q=False:=by intro s h;simp[runtimePanic,aJ,mq,goPanic,aH]
 unfold boundsPanic;split<;>simp[aJ,xc,a,Question.forced]
def ae4{t:ta}(b:P.underlying t=C .string){l:List UInt8}{k:E1}{i:Int}[K:KK o5]:al P (auG t (au l) (.int k i)) h=(0<=i/\@Av l[i.toNat]? ⟨λv=>K.f v h⟩):=by
 simp only[al,auG,asIntOf,aJ,aR,c0,b];by_cases hi:0<=i
 .have c:(⟨⟨l⟩⟩:ByteArray)[i.toNat]? =l[i.toNat]? :=by
   rcases Nat.lt_or_ge i.toNat l.length with a|a
   .rw[List.getElem?_eq_getElem a,getElem?_pos (⟨⟨l⟩⟩:ByteArray) i.toNat a];rfl
   .rw[List.getElem?_eq_none a,getElem?_neg (⟨⟨l⟩⟩:ByteArray) i.toNat (by show ¬i.toNat<l.length;omega)]
  simp only[hi,if_true,c,true_and];cases l[i.toNat]? with
  |none=>simp only[Av];exact JF
  |some w=>rfl
 .simp only[hi,if_false,false_and];exact JF
def ae5{t ty:ta}(a:P.underlying t=C .string){l:List UInt8}[K:KK o5]:al P (Builtin.len_ #[t] ty #[au l]) h=K.f (.int .i64 l.length) h:=Oy a
def lM(l:List UInt8)(a b:Nat):(⟨⟨l⟩⟩:ByteArray).extract a b=⟨⟨(l.drop a).take (b- a)⟩⟩:=by apply ByteArray.ext;rw[ByteArray.data_extract];apply auT.1;simp
def gg{t:ta}{x y:su}{a b:List UInt8}[K:KK o5]:al P (bN .eql t x y (au a) (au b)) h=K.f (.bool (a==b)) h:=by simp only[al,bN,aJ,W2,binOp,Op.stringOp,Cq];simp[aR]
def Aw{t:ta}{x y:su}{a b:List UInt8}[K:KK o5]:al P (bN .neq t x y (au a) (au b)) h=K.f (.bool (!(a==b))) h:=by simp only[al,bN,aJ,W2,binOp,Op.stringOp,Cq];simp[aR]
def ae6(a b:List UInt8):(⟨⟨a⟩⟩:ByteArray)++(⟨⟨b⟩⟩:ByteArray)=⟨⟨a++b⟩⟩:=by apply ByteArray.ext;rw[ByteArray.data_append];apply auT.1;simp
def ma{t:ta}{x y:su}{a b:List UInt8}(i:a.length+b.length<=1000000)[K:KK o5]:al P (bN .add t x y (au a) (au b)) h=K.f (au (a++b)) h:=by
 have c:¬(((⟨⟨a⟩⟩:ByteArray).size+(⟨⟨b⟩⟩:ByteArray).size:Nat):Int)>IntKind.i64.max:=by
  have e:IntKind.i64.max=9223372036854775807:=O
  have d:(⟨⟨a⟩⟩:ByteArray).size=a.length:=rfl;have g:(⟨⟨b⟩⟩:ByteArray).size=b.length:=rfl;rw[e,d,g];omega
 simp only[al,bN,aJ,W2,binOp,Op.stringOp,c,if_false];simp only[aR,ae6];simp[aR]
def ae7{t:ta}(d:P.underlying t=C .string){l:List UInt8}{k k':E1}{a b:Nat}(h1:a<=b)(i:b<=l.length)[K:KK o5]:al P (K0 t (au l) (C (.int k a)) (C (.int k' b)) o0) h=K.f (au ((l.drop a).take (b- a))) h:=by
 have g:b<=(⟨⟨l⟩⟩:ByteArray).size:=i;simp only[al,K0,aJ,c0,d];simp only[awX,aJ,c0,d];rw[if_neg Y,aJ];unfold awz;rw[aJ,aR,aJ];have e:=λQ=>rK (P:=P) (h:=h) (k:=k') (c:=.sliceAlen) g Q;have j:=λQ=>rK (P:=P) (h:=h) (k:=k) (c:=.sliceB) h1 Q;refine(e _).trans ?_;simp only[aJ];refine(j _).trans ?_;show K.f (.string ((⟨⟨l⟩⟩:ByteArray).extract a b)) h=_;rw[lM]
def ae8{t:ta}(a:P.underlying t=C .string){l:List UInt8}{k:E1}{b:Nat}(d:b<=l.length)[K:KK o5]:al P (K0 t (au l) o0 (C (.int k b)) o0) h=K.f (au (l.take b)) h:=by
 have c:b<=(⟨⟨l⟩⟩:ByteArray).size:=d;simp only[al,K0,aJ,c0,a];simp only[awX,aJ,c0,a];rw[if_neg Y,aJ];simp only[awz,aJ,aR,rK c,lM,List.drop_zero,Nat.sub_zero]
def Rk{t:ta}(b:P.underlying t=C .string){l:List UInt8}{k:E1}{a:Nat}(d:a<=l.length)[K:KK o5]:al P (K0 t (au l) (C (.int k a)) o0 o0) h=K.f (au (l.drop a)) h:=by
 have c:a<=(⟨⟨l⟩⟩:ByteArray).size:=d;simp only[al,K0,aJ,c0,b];simp only[awX,aJ,c0,b];rw[if_neg Y,aJ];have e:(l.drop a).take ((⟨⟨l⟩⟩:ByteArray).size- a)=l.drop a:=List.take_of_length_le (by show _<=l.length- a;simp);simp only[awz,aJ,aR,rK c,lM,e]
def ev{main:Bool}{ai:Type}{S:Sys ai}{f:vb}{args:Array o5}{s:ai}{v:o5}{K:ai->ae->o5->Prop}(ck:bz P f=J)(c:bo P main S f args s h λa h' b=>a=s/\h'=h/\b=v)(k:K s h v):@ej P main _ S f args s h ⟨K⟩:= .inl ⟨ck,c.mono λ_ _ _ ⟨d,e,g⟩=>by subst d;subst e;subst g;exact k⟩
def cd{main:Bool}{ai:Type}{S:Sys ai}{f:vb}{args:Array o5}{s:ai}{Q K:ai->ae->o5->Prop}(ck:bz P f=J)(c:bo P main S f args s h Q)(k:∀a h' v,Q a h' v->K a h' v):@ej P main _ S f args s h ⟨K⟩:= .inl ⟨ck,c.mono k⟩
def Pure(P:tb)(main:Bool){ai:Type}(S:Sys ai)(f:vb)(args:Array o5)(v:o5):Prop:=∀s h,bo P main S f args s h λa h' b=>a=s/\h'=h/\b=v
end
def oA(w:UInt8):Bool:=decide ((97:Int)<=w.toNat)&&decide ((w.toNat:Int)<=122)
def jz(w:UInt8):Bool:=decide ((48:Int)<=w.toNat)&&decide ((w.toNat:Int)<=57)
section
variable{main:Bool}{ai:Type}{S:Sys ai}
def oB:bz pv 47=J:=O
def ae9:bz pv 48=J:=O
def oX:bz pv 53=J:=O
def Rl:bz pv 86=J:=O
def Rm:bz pv 87=J:=O
def oY(n lo hi:Int):Pure pv main S 53 #[.int .i64 n,.int .i64 lo,.int .i64 hi] (.bool (decide (lo<=n)&&decide (n<=hi))):=by intro s h;refine bL (args:=[.int .i64 n,.int .i64 lo,.int .i64 hi]) Tryz.func53 (by delta Tryz.f53;rfl) Tryz.ntmps53 Y O ?_;by_cases h1:lo<=n<;>simp only[h1,aO,seval]<;>exact bu Tryz.results53 Y (by simp[aL])
def oC(n lo hi:Int):Pure pv main S 47 #[.int .i64 n,.int .i64 lo,.int .i64 hi] (.bool (decide (lo<=n)&&decide (n<=hi))):=by intro s h;refine bL (args:=[.int .i64 n,.int .i64 lo,.int .i64 hi]) Tryz.func47 (by delta Tryz.f47;rfl) Tryz.ntmps47 Y O ?_;by_cases h1:lo<=n<;>simp only[h1,aO,seval]<;>exact bu Tryz.results47 Y (by simp[aL])
def Rn(w:UInt8):Pure pv main S 86 #[.int .u8 w.toNat] (.bool (oA w)):=by intro s h;refine bL (args:=[.int .u8 w.toNat]) Tryz.func86 (by delta Tryz.f86;rfl) Tryz.ntmps86 Y O ?_;by_cases h1:(97:Int)<=w.toNat<;>simp only[h1,aO,seval]<;>refine bu Tryz.results86 Y ?_<;>simp only[aL,oA,h1,↓reduceIte,decide_true,decide_false,awQ,auH]<;>trivial
def Ro(w:UInt8):Pure pv main S 87 #[.int .u8 w.toNat] (.bool (jz w)):=by intro s h;refine bL (args:=[.int .u8 w.toNat]) Tryz.func87 (by delta Tryz.f87;rfl) Tryz.ntmps87 Y O ?_;by_cases h1:(48:Int)<=w.toNat<;>simp only[h1,aO,seval]<;>refine bu Tryz.results87 Y ?_<;>simp only[aL,jz,h1,↓reduceIte,decide_true,decide_false,awQ,auH]<;>trivial
end
def key(c:cV):Int:=64*c.1+match c.2 with|[a,b]=>8*oz a+oz b|_=>0
def Rp{a b c d:bX}{n n':Int}(e:a∈dm)(hb:b∈dm)(hc:c∈dm)(hd:d∈dm):(n<n'\/(n=n'/\uA a b c d<0))↔key (n,[a,b])<key (n',[c,d]):=by rw[aaQ e hb hc hd];have h1:=(vW e e).2.2;have f:=(vW hb hb).2.2;have g:=(vW hc hc).2.2;have h:=(vW hd hd).2.2;simp only[key];omega
def ks(fb bb:Nat):ae:=λb=>if b=fb then C ⟨.cells #[.bool q9] 4 (0,0),J⟩else if b=bb then C ⟨.cells #[.slice o0 0 0,.int .i64 0] 131 (0,0),J⟩else o0
def iV(fb bb p k:Nat)(n:Int)(arr:Array o5):ae:=λb=>if b=fb then C ⟨.cells #[.bool J] 4 (0,0),J⟩else if b=bb then C ⟨.cells #[.slice (C ⟨p,0,o0⟩) 2 k,.int .i64 n] 131 (0,0),J⟩else if b=p then C ⟨.cells arr 57 (0,0),J⟩else o0
def uC(fb bb:Nat)(d:Nat->List cV)(aT:ae):Prop:=((∀i,d i=[])/\aT=ks fb bb)\/
 ∃(i:Nat) (c:cV) (a b:bX) (p k:Nat) (arr:Array o5) (rest:List o5),c∈d i/\c.2=[a,b]/\a∈dm/\b∈dm/\(∀j,∀bJ∈d j,key c<=key bJ)/\p≠fb/\p≠bb/\arr.toList=iL [a,b]++rest/\(∃e,cu pv 57=C e/\arr.size=k*e)/\aT=iV fb bb p k c.1 arr
def mD(a:Nat->List cV)(i:Nat)(c:cV):Nat->List cV:=λj=>if j=i then a i++[c]else a j
def Rq{a:Nat->List cV}{i j:Nat}{c bJ:cV}(h:bJ∈mD a i c j):bJ∈a j\/bJ=c:=by
 unfold mD at h;split at h
 .rename_i e;subst e;rcases D3.1 h with q|q
  .exact .inl q
  .exact .inr (by simpa using q)
 .exact .inl h
def afa{a:Nat->List cV}{i j:Nat}{c bJ:cV}(h:bJ∈a j):bJ∈mD a i c j:=by
 unfold mD;split
 .rename_i e;subst e;exact D3.2 (.inl h)
 .exact h
def afb{a:Nat->List cV}{i:Nat}{c:cV}:c∈mD a i c i:=by simp[mD]
def uC.better{fb bb:Nat}{c:Nat->List cV}{i p k:Nat}{n:Int}{a b:bX}{arr:Array o5}{rest:List o5}(e:a∈dm)(hb:b∈dm)(f:∀j,∀bJ∈c j,key (n,[a,b])<=key bJ)(h1:p≠fb)(l:p≠bb)(g:arr.toList=iL [a,b]++rest)(h:∃d,cu pv 57=C d/\arr.size=k*d):uC fb bb (mD c i (n,[a,b])) (iV fb bb p k n arr):=
 .inr ⟨i,(n,[a,b]),a,b,p,k,arr,rest,afb,rfl,e,hb,λj bJ hc=>by
  rcases Rq hc with q|q
  .exact f j bJ q
  .rw[q];exact Int.le_refl _,h1,l,g,h,rfl⟩
def uC.same{fb bb:Nat}{d:Nat->List cV}{e i p k:Nat}{c c1:cV}{a b:bX}{arr:Array o5}{rest:List o5}(o:c∈d e)(hc:c.2=[a,b])(g:a∈dm)(hb:b∈dm)(h:∀j,∀bJ∈d j,key c<=key bJ)(r:key c<=key c1)(h1:p≠fb)(s:p≠bb)(l:arr.toList=iL [a,b]++rest)(m:∃f,cu pv 57=C f/\arr.size=k*f):uC fb bb (mD d i c1) (iV fb bb p k c.1 arr):=
 .inr ⟨e,c,a,b,p,k,arr,rest,afa o,hc,g,hb,λj bJ n=>by
  rcases Rq n with q|q
  .exact h j bJ q
  .rw[q];exact r,h1,s,l,m,rfl⟩
def pK(N fb bb:Nat)(a:Nat->List cV)(aT:ae):Prop:=uC fb bb a aT/\∀j,(j<N\/N+8<=j)->a j=[]
def pK.start(N fb bb:Nat):pK N fb bb (λ_=>[]) (ks fb bb):=⟨.inl ⟨λ_=>rfl,rfl⟩,λ_ _=>rfl⟩
def afc(fb bb:Nat):(ks fb bb).kK:=λb x h=>by
 unfold ks at h;split at h
 .cases h;rfl
 .split at h
  .cases h;rfl
  .cases h
def Rr(fb bb p k:Nat)(n:Int)(arr:Array o5):(iV fb bb p k n arr).kK:=λb x h=>by
 unfold iV at h;split at h
 .cases h;rfl
 .split at h
  .cases h;rfl
  .split at h
   .cases h;rfl
   .cases h
def pL(P:tb){α:Type}:Sem α->Option α
 | .pure a=>C a
 | .program k=>pL P (k P)
 |_=>o0
def rP{P:tb}{α:Type}:∀{m:Sem α} {a:α},pL P m=C a->∀w es,m.runT P w es=(.ok a w,es):=by
 intro m
 induction m with
 |pure a=>intro b h w es;cases h;simp[Sem.runT]
 |program k c=>intro b h w es;simp only[Sem.runT];exact c P h w es
 |_=>intro b h;cases h
def JG(P:tb)(aK:vH)(cs:List vH)(o:sa):Option (vH×List vH):=match aK.roundOf with
 |some _=>o0
 |none=>match pL P (execOp aK.eval o)with
  |some (.value v)=>C (aK.finish v,cs)
  |some .skip=>C (aK.finish undef,cs)
  |some (.defer d)=>C ({aK with defers:=d::aK.defers}.finish undef,cs)
  |some (.enter f args)=>C (Frame.enter P f args .normal,aK::cs)
  |_=>o0
def DQ(P:tb)(aK:vH)(cs:List vH):Option (vH×List vH):=match aK.mode with
 | .run=>match aK.roundOf with
  |some _=>o0
  |none=>match aK.todo with
   | []=>C ({aK with mode:=.returning},cs)
   | .code .ret::_=>C ({aK with mode:=.returning},cs)
   | .code .skip::k=>C ({aK with todo:=k},cs)
   | .inBlock _::k=>C ({aK with todo:=k},cs)
   | .code (.seq a b)::k=>C ({aK with todo:=.code a::.code b::k},cs)
   | .code (.cond c x y)::k=>match aK.eval c with
    | .bool t=>C ({aK with todo:=.code (if t then x else y)::k},cs)
    |_=>o0
   | .code (.block i c)::k=>C ({aK with todo:=.code c::.inBlock i::k},cs)
   | .code (.loop c)::k=>C ({aK with todo:=.code c::.inLoop c::k},cs)
   | .inLoop c::k=>C ({aK with todo:=.code c::.inLoop c::k},cs)
   | .code (.exit i)::k=>match exitTo i k with
    |some k'=>C ({aK with todo:=k'},cs)
    |none=>o0
   | .code (.region _ ops q9)::k=>C ({aK with todo:=.inRegion ops (List.range ops.size)::k},cs)
   | .inRegion _ []::k=>C ({aK with todo:=k},cs)
   | .inRegion ops (i::rest)::k=>match ops[i]? with
    |none=>o0
    |some o=>match R9 o (yielded ops aK.tmps)with
     |false=>C (aK.finish undef,cs)
     |true=>match aK.kind with
      | .early=>o0
      |_=>JG P aK cs o
   |_=>o0
 | .returning=>match aK.defers with
  | []=>match P.funcs[aK.fn]? with
   |none=>o0
   |some fn=>match pL P (results fn aK.tmps)with
    |none=>o0
    |some v=>match cs with
     | []=>o0
     |c::cs=>match aK.kind with
      | .normal=>C (c.finish v,cs)
      | .deferred=>match c.mode with
       | .returning=>C (c,cs)
       | .panicking (e::_)=>match e.recovered with
        |false=>C (c,cs)
        |true=>o0
       |_=>o0
      |_=>o0
  |_=>o0
 |_=>o0
def afd{aK:vH}(a:aK.mode=.run):aK=(⟨aK.fn,aK.kind,aK.roundOf⟩:aS).at ⟨aK.tmps,aK.defers⟩ aK.todo:=by cases aK;simp only at a;subst a;rfl
def Rs{P:tb}{main:Bool}{aK q:vH}{cs r:List vH}(h:DQ P aK cs=C (q,r))(w:World):vx P main (G aK cs) w=.go (G q r) w #[]:=by
 unfold DQ at h;split at h
 .rename_i l;split at h
  .cases h
  .rename_i y;obtain⟨fn,tmps,todo,defers,mode,kind,ro⟩:=aK;simp only at l y h;subst l y;split at h
   all_goals first
    | (cases h;simp[G,vx,atK];done)
    |skip
   ·
    split at h
    .rename_i u;cases h;simp only[G,vx,atK,u]
    .cases h
   .split at h
    .rename_i u;cases h;simp[G,vx,atK,u]
    .cases h
   .rename_i ops i rest k;split at h
    .cases h
    .rename_i o s;split at h
     .rename_i x;cases h;simp[G,vx,atK,s,x]
     .rename_i x;have A:kind≠.early:=by rintro rfl;cases h
      have j:JG P ⟨fn,tmps,.inRegion ops (i::rest)::k,defers,.run,kind,o0⟩ cs o=C (q,r):=by
       split at h
       .cases h
       .exact h
      unfold JG at j;simp only at j;let b:aS:=⟨fn,kind,o0⟩;let a:Act:=⟨tmps,defers⟩;have t:∀(n:List tc) v,({fn:=fn,tmps:=tmps,todo:=.inRegion ops (i::rest)::k,defers:=n,mode:=.run,kind:=kind,roundOf:=o0}:vH).finish v=b.at (({a with defers:=n}:Act).put o.dst v) (.inRegion ops rest::k):=λn v=>by have:=aS.finish_at b {a with defers:=n} ops i rest k v;rw[s]at this;exact this
      have z:(⟨fn,tmps,.inRegion ops (i::rest)::k,defers,.run,kind,o0⟩:vH).eval=a.eval:=aS.BH (b:=b) (a:=a) (.inRegion ops (i::rest)::k);rw[z]at j;have p:=λan w' es B=>@sz P main b a k cs w ops i rest o s x (by unfold kS;split<;>simp_all[b]) A an w' es B;split at j
      .rename_i v g;cases j;have:=p _ _ _ _ (rP g w #[]) rfl;rw[auL]at this;rw[t];exact this
      .rename_i g;cases j;have:=p _ _ _ _ (rP g w #[]) rfl;rw[auL]at this;rw[t];exact this
      .rename_i d g;cases j;have:=p _ _ _ _ (rP g w #[]) rfl;rw[auL]at this;rw[t];exact this
      .rename_i f args g;cases j;have:=p _ _ _ _ (rP g w #[]) rfl;rw[auL]at this;exact this
      .cases j
   .cases h
 .rename_i l;split at h
  .rename_i hd;split at h
   .cases h
   .rename_i fn m;split at h
    .cases h
    .rename_i v g;split at h
     .cases h
     .rename_i c cs;obtain⟨H,tmps,todo,defers,mode,kind,ro⟩:=aK;simp only at l hd m g h;subst l hd;split at h
      .cases h;simp[-auP,G,vx,avm,m,rP g w #[],av3,atZ,auL]
      .split at h
       .rename_i hc;cases h;simp[-auP,G,vx,avm,m,rP g w #[],av3,atZ,auL,hc]
       .rename_i e D hc;obtain⟨aA,E,F⟩:=e;simp only at h;split at h
        .cases h;simp[-auP,G,vx,avm,m,rP g w #[],av3,atZ,auL,hc]
        .cases h
       .cases h
      .cases h
  .cases h
 .cases h
def wi(P:tb):Nat->vH->List vH->vH×List vH
 | 0,aK,cs=>(aK,cs)
 |n+1,aK,cs=>match DQ P aK cs with
  |some (a,b)=>wi P n a b
  |none=>(aK,cs)
def JH{P:tb}{main:Bool}{ai:Type}{S:Sys ai}{Q:ai->ae->Goroutine->Prop}{s:ai}{h:ae}:∀(n:Nat) {aK:vH} {cs:List vH},dv P main S Q s h (G (wi P n aK cs).1 (wi P n aK cs).2)->dv P main S Q s h (G aK cs)
 | 0,_,_,r=>r
 |n+1,aK,cs,r=>by
  unfold wi at r;split at r
  .rename_i b c a;exact .iG rfl (λw=>Rs a w) (JH n r)
  .exact r
def JI(d:tc):Option vb:=match d.target with
 | .fn (.func f) c=>match c.toList,d.args.toList with
  | [],[]=>C f
  |_,_=>o0
 |_=>o0
def afe{d:tc}{f:vb}(h:JI d=C f):d=dcall f #[]:=by
 obtain⟨t,args⟩:=d;unfold JI at h;split at h
 .rename_i g c a;simp only at a;subst a;split at h
  .rename_i h1 b;cases h;have h1:c=#[]:=by cases c;simp_all
   have b:args=#[]:=by cases args;simp_all
   rw[h1,b];rfl
  .cases h
 .cases h
def qM(P:tb)(a:vb):Nat->Nat->vH->List vH->Bool
 | 0,_,_,_=>q9
 |n+1,d,aK,cs=>match DQ P aK cs with
  |some (b,c)=>qM P a n d b c
  |none=>match aK.mode with
   | .returning=>match aK.defers with
    |x::ds=>match JI x with
     |some f=>td f a&&td d 1&&qM P a n 0 {aK with defers:=ds} cs
     |none=>q9
    | []=>match cs with
     | []=>match aK.kind with
      | .normal=>match P.funcs[aK.fn]? with
       |some fn=>(pL P (results fn aK.tmps)).isSome&&td d 0
       |none=>q9
      |_=>q9
     |_=>q9
   | .panicking e=>match aK.defers with
    | []=>match cs with
     | []=> !(aK.catches P)&&e.head?.any (·.goexit)&&td d 0
     |_=>q9
    |_=>q9
   |_=>q9
def aff{P:tb}{j:vb}{a:Func}(k:P.funcs[j]? =C a)(l:(a.name== "runtime.NumGoroutine")=q9)(hb:a.body.isNone=J)(m:Extern.findNext a=o0)(q:Extern.find a=C (λ_=>do mark .enable;pure Extern.Race.none_)):∀(n d:Nat) (aK:vH) (cs:List vH),qM P j n d aK cs=J->QuitsD P n d (G aK cs):=by
 intro n
 induction n with
 |zero=>intro d aK cs h;cases h
 |succ n o=>
  intro d aK cs h;unfold qM at h;split at h
  .rename_i D E r;exact .ctl rfl (λw=>Rs r w) (o _ _ _ h)
  .split at h
   .rename_i b;obtain⟨c,tmps,todo,y,z,kind,ro⟩:=aK;simp only at b h;subst b;split at h
    .rename_i F _ _ x;split at h
     .rename_i f i;simp only[vh]at h;obtain⟨⟨h1,e⟩,h⟩:=h;obtain rfl:f=j:=atP h1;obtain rfl:d=1:=atP e;rw[afe i];have key:=o _ _ _ h;refine .said ⟨.mark .enable,q9,J⟩ rfl rfl (λw=> ?_) key;have s:(av6 f #[]).run P w=.ok (.value (.tuple #[])) w:=by rw[run_callFunc_extern k l hb m q];simp[Extern.Race.none_,Result.andThen]
      have p:seen P c ((av6 f #[]).events P w #[])=#[⟨.mark .enable,q9,J⟩]:=by rw[events_callFunc_extern k l hb m q];have:=seen_entry (P:=P) (f:=f) c (#[⟨.mark .enable,q9,J⟩]) (by intro x i;simp at i;subst i;exact⟨rfl,λg h=>by cases h⟩);simpa using this
      simp[G,vx,avm,callDeferred,dcall,invoke,s,atZ]at p ⊢;exact p
     .cases h
    .split at h
     .split at h
      .skip
       split at h
       .rename_i fn t;simp only[vh]at h;obtain⟨h,e⟩:=h;obtain rfl:d=0:=atP e;obtain⟨v,u⟩:=aud.1 h;refine .inr ⟨rfl,{G ⟨c,tmps,todo,[],.returning,.normal,ro⟩ []with status:=.finished},#[],Y,λw=> ?_,?_⟩
        .simp[-auP,G,vx,avm,t,rP u w #[],av3,atZ,auL]
        .cases n with
         |zero=>exact⟨rfl,rfl⟩
         |succ n=>exact .inl ⟨rfl,rfl⟩
       .cases h
      .cases h
     .cases h
   .rename_i A b;obtain⟨c,tmps,todo,y,z,kind,ro⟩:=aK;simp only at b h;subst b;split at h
    .split at h
     .simp only[vh,avp]at h;obtain⟨⟨h1,e⟩,B⟩:=h;obtain rfl:d=0:=atP B;refine .inr ⟨rfl,{G ⟨c,tmps,todo,[],.panicking A,kind,ro⟩ []with status:=.finished},#[],Y,λw=> ?_,?_⟩
      .simp[-auP,G,vx,avm,h1,e]
      .cases n with
       |zero=>exact⟨rfl,rfl⟩
       |succ n=>exact .inl ⟨rfl,rfl⟩
     .cases h
    .cases h
   .cases h
section
variable{P:tb}{main:Bool}{ai:Type}{S:Sys ai}{b:aS}{a:Act}{k:List Item}{cs:List vH}{w w':World}{s:ai}{h:ae}
def Rt{f:vb}{x y args:Array o5}(ck:bz P f=J):pL P (rD (.func (.func f) x y) args)=C (.enter f (x++args++y)):=by
 unfold bz at ck;split at ck
 .rename_i fn a;simp only[vh,avp]at ck;obtain⟨c1,c2⟩:=ck;obtain⟨c,hc⟩:=aud.1 c2;have b:¬fn.name= "runtime.NumGoroutine" :=by simpa using c1
  show pL P (do let d <- Deferred.ofValue (.func (.func f) x y) args;invoke d.target d.args)=_;simp only[Deferred.ofValue];show pL P (av6 f (x++args++y))=_;unfold av6;show pL P (Sem.bind program _)=_;simp[program,Sem.bind,pL,a,b,hc];rfl
 .cases ck
def Ru{f:su}{bc:Array Tmp}{e g:rj}{c:vb}{x y:Array o5}{l:Nat}{mark:List tc}{es:Array Event}(ck:bz P c=J)(i:b.ro=o0)(q:b.kind≠.early)(j:a.eval f=.func (.func c) x y)
  (n:(aw5 b.fn a.tmps bc e g o0).runT P w #[]=(.ok (l,mark) w',es)):
  vx P main (G (b.at a (.code (.rangeFunc f bc e g)::k)) cs) w=.go (G (Frame.enter P c (x++#[.func (.yield l) #[] #[]]++y) .normal) (b.at ⟨a.tmps,mark++a.defers⟩ (.inRangeFunc l::k)::cs)) w' (seen P b.fn es):=by
 have o:(b.kind==CallKind.early)=q9:=by simpa using q
 have r:=rP (Rt (x:=x) (y:=y) (args:=#[.func (.yield l) #[] #[]]) ck) w' #[];have p:∀(t:List Item) (m:FrameMode) (h:List tc),({fn:=b.fn,tmps:=a.tmps,todo:=t,defers:=h,mode:=m,kind:=b.kind,roundOf:=o0}:vH).eval f=.func (.func c) x y:=λt m h=>by rw[<- j];cases f<;>rfl
 simp[-auP,G,vx,atK,aS.at,i,n,stepG.apply,atZ,resolve,p,o];have s:∀aK:vH,(do let d <- Deferred.ofValue (.func (.func c) x y) #[aK.eval (.const (.func (.yield l) #[] #[]))];invoke d.target d.args:Sem Next).runT P w' #[]=(.ok (.enter c (x++#[.func (.yield l) #[] #[]]++y)) w',#[]):=λaK=>r;simp only[s];simp[auL]
def afg{f:su}{bc:Array Tmp}{g i:rj}{d:vb}{x y:Array o5}{K:eM->Act->ai->ae->Prop}(ck:bz P d=J)(o:b.ro=o0)(z:b.kind≠.early)(p:a.eval f=.func (.func d) x y)
  (u:aH P (aw5 b.fn a.tmps bc g i o0) h λc h1=>bo P main S d (x++#[.func (.yield c.1) #[] #[]]++y) s h1 λm h' v=>aH P (av4 c.1) h' λA B=>A=o0/\K .cx ⟨a.tmps,c.2++a.defers⟩ m B):
  jo P main S b (.rangeFunc f bc g i) K a s h:=by
 intro Q k cs hc;refine .step ⟨rfl,λw r=> ?_⟩;obtain⟨c,w',h1,es,n,D,E,F,H⟩:=BG P _ h _ w #[] r u;rw[Array.empty_append]at n;obtain⟨l,mark⟩:=c;refine⟨_,w',_,h1,Ru ck o z p n,E,F,λe I=>H e (mem_seen I),?_⟩;refine D Q _ cs λm h' v q=> ?_;have t:(b.at ⟨a.tmps,mark++a.defers⟩ (.inRangeFunc l::k)).finish v=b.at ⟨a.tmps,mark++a.defers⟩ (.endRangeFunc l::k):=rfl;rw[t];exact tU (g':=λj=>G (b.at ⟨a.tmps,mark++a.defers⟩ ((j.map Item.code).toList++k)) cs) (fn:=b.fn) rfl (λ_ _ _ _ _ _=>trivial) q λw v w' es h' e q=>by obtain⟨rfl,q⟩:=q;exact⟨GI e,hc .cx _ _ _ q⟩
def Rv{n:Nat}{f:su}{bc:Array Tmp}{k l:rj}{g:vb}{x y:Array o5}{K:eM->Env->List tc->ai->ae->Prop}{e:Env}{d:List tc}(ck:bz P g=J)(p:b.ro=o0)(w:b.kind≠.early)(t:aA e f=.func (.func g) x y)
  (u:aH P (aw5 b.fn (Array.ofFn (n:=n) λi=>e i) bc k l o0) h λc h1=>bo P main S g (x++#[.func (.yield c.1) #[] #[]]++y) s h1 λm h' v=>aH P (av4 c.1) h' λz o=>z=o0/\K .cx e (c.2++d) m o):
  cB P main S n b (.rangeFunc f bc k l) K e d s h:=by
 intro a r hd;subst hd;refine afg ck p w (by rw[zG r];exact t) ?_;rw[xz r];refine lq P _ (λc h1 q=>q.mono λm h' v q=>lq P _ (λj o q=>⟨q.1,e,?_,q.2⟩) q) u;have:=xz r;rw[<- this];exact r
def JJ{n l:Nat}{f:vb}{tmps:Array o5}{b c:rj}{Post:ai->ae->o5->Prop}{e:Env}(r:iR n ⟨tmps,[]⟩ e)(h1:fN n b=J)(g:fN n c=J)
  (u:cB P main S n ⟨f,.normal,C l⟩ b (λx=>match x with
   | .cx=>λe d s h=>aH P (awo l) h λ_ h'=>cB P main S n ⟨f,.normal,C l⟩ c (λx e d s h=>aH P (ave l (xr x)) h λv h'=>Post s h' v) e d s h'
   |_=>λ_ _ _ _=>False) e [] s h):ki P main S l f tmps b c s h Post:=by
 refine YB (vq (λx a s h ⟨e,r,q⟩=> ?_) (xw h1 r u));cases x with
 |ext i=>exact q.elim
 |ret=>exact q.elim
 |cx=>exact lq P _ (λ_ h' q=>vq (λx a s h ⟨e,r,q⟩=>q) (xw g r q)) q
def yj{l:Nat}{L:Loop}{o:Bool}{K:Loop->ae->Prop}(a:h l=C ⟨.loop L,o⟩):aH P (aBL l) h K=K L h:=by
 have e:∀Q:Obj->ae->Prop,aH P (getObj l) h Q=match h l with
  |some x=>ae.mn x.obj=J/\x.obj.isChan=q9/\aH P (pure x.obj:Sem Obj) h Q
  |none=>False:=λQ=>by unfold getObj;rw[aH];rfl
 simp only[aBL,aJ,e,a,ae.mn,Obj.isChan,aR,true_and]
def Ax{l:Nat}{L a:Loop}{K:Unit->ae->Prop}(b:h l=C ⟨.loop L,J⟩):aH P (setObj l (.loop a)) h K=K () (h.put l ⟨.loop a,J⟩):=by
 have e:aH P (setObj l (.loop a)) h K=match h l with
  |some x=>ae.mn x.obj=J/\(Obj.loop a).isChan=q9/\x.own=J/\aH P (pure ():Sem Unit) (h.put l ⟨.loop a,J⟩) K
  |none=>False:=by unfold setObj;rw[aH];rfl
 rw[e,b];simp[ae.mn,Obj.isChan,aR]
def DR{l p:Nat}{L:Loop}{o:Bool}{v:o5}[K:KK Next](a:h l=C ⟨.loop L,o⟩)(b:L.params=#[p]):al P (rD (.func (.yield l) #[] #[]) #[v]) h=K.f (.round l L.fn (L.tmps.setIfInBounds p v) L.assign L.body) h:=by
 have c:rD (.func (.yield l) #[] #[]) #[v]=Instr.yield l #[v]:=rfl;simp only[al,c,Instr.yield,aJ,yj a,b];simp[aR]
def JK{l:Nat}{L:Loop}{K:Unit->ae->Prop}(a:h l=C ⟨.loop L,J⟩)(hs:L.state=.ready):aH P (awo l) h K=K () (h.put l ⟨.loop {L with state:=.busy},J⟩):=by simp only[awo,aJ,yj a,Ax a,hs,aR]
def DS{l:Nat}{L:Loop}{K:o5->ae->Prop}(a:h l=C ⟨.loop L,J⟩):aH P (ave l o0) h K=K (.bool J) (h.put l ⟨.loop {L with state:=.ready,pending:=o0},J⟩):=by simp only[ave,aJ,yj a,Ax a,aR];rfl
def JL{l:Nat}{L:Loop}{K:Option rj->ae->Prop}(a:h l=C ⟨.loop L,J⟩)(hs:L.state=.ready):aH P (av4 l) h K=K L.pending (h.put l ⟨.loop {L with state:=.exhausted},J⟩):=by
 have hb:(L.state==LoopState.busy)=q9:=by rw[hs];rfl
 simp only[av4,aJ,yj a,hb,Bool.false_eq_true,if_false,Ax a,aR]
def JM{fn:vb}{tmps:Array o5}{params:Array Tmp}{a body:rj}{K:Nat×List tc->ae->Prop}
  (u:∀r,h r=o0->∀l,l≠r->h l=o0->K (l,[{target:=.collected r,args:=#[]}]) ((h.put r ⟨.deferred (C []),J⟩).put l ⟨.loop {state:=.ready,pending:=o0,fn,tmps,params,assign:=a,body,defers:=r},J⟩)):
  aH P (aw5 fn tmps params a body o0) h K:=by
 simp only[aw5,aJ,qo,aR];intro r d l b;have c:l≠r:=λe=>by subst e;simp[ae.put]at b
 exact u r d l c (by simpa[ae.put,c]using b)
end
section
variable{P:tb}{main:Bool}{ai:Type}{Sy:Sys ai}{b:aS}{d:List tc}{ops:Array sa}{N:Env->List tc->ai->ae->Prop}
def afh(he:l5 0 ops.toList=J)(X:P.follows .mixedOrders=J)(hg:∀(i:Nat) (o:sa),ops[i]? =C o->o.guard=o0)
  (hd:∀(i j:Nat) (o f:sa) (t:Nat),ops[i]? =C o->ops[j]? =C f->o.dst=C t->f.dst=C t->i=j)
  (g:Nat) (F:Bool->Nat->o5->ae->Prop) (Fm:∀c i v h h',h.ar h'->F c i v h->F c i v h') (Zz:Bool->ai->Prop) {e0:Env} {aP:ai} {h0:ae} (R:ae->ae->Prop) (R0:∀h h',h0.ar h->R h h'->h0.ar h') (FR:∀i v h h',R h h'->F q9 i v h->F J i v h') (z0:Zz q9 aP)
  (step:∀(i:Nat) (o:sa),ops[i]? =C o->∀e s h,h0.ar h->(∀a,(∀(j:Nat) (f:sa),ops[j]? =C f->f.dst≠C a)->e a=e0 a)->∀c,Zz c s->(i=g->c=q9)->(∀x∈o.after,atV .any x=J->∀f a,ops[x.on]? =C f->f.dst=C a->F c x.on (e a) h)->
   bP P main Sy b o e d s h λe' L I h'=>L=d/\∃v,e'=b7 e o.dst v/\(if i=g then Zz J I/\R h h'/\F J i v h' else I=s/\h.ar h'/\F c i v h'))
  (bd:∀e s h,h0.ar h->(∀a,(∀(j:Nat) (f:sa),ops[j]? =C f->f.dst≠C a)->e a=e0 a)->(∀(i:Nat) (o:sa) (t:Nat),ops[i]? =C o->o.dst=C t->F (decide (g<ops.size)) i (e t) h)->Zz (decide (g<ops.size)) s->N e d s h) (t:Nat):
  fO P main Sy b ops (atM (P.follows .mixedOrders) ops t) e0 d aP h0 N:=by
 unfold atM;rw[X,Bool.true_or,if_pos rfl];refine uu he (λD e s h=>h0.ar h/\(∀a,(∀(j:Nat) (f:sa),ops[j]? =C f->f.dst≠C a)->e a=e0 a)/\(∀(i:Nat) (o:sa) (t:Nat),ops[i]? =C o->o.dst=C t->D i=J->F (decide (g<ops.size)&&D g) i (e t) h)/\Zz (decide (g<ops.size)&&D g) s)
  (λD D' e s h M ⟨q,r,n,u⟩=> ?_) (λD e s h i o ⟨q,r,n,u⟩ hi B y az=> ?_) (λD e s h ⟨q,r,n,u⟩ Q=> ?_) ⟨λ_ _ e=>e,λ_ _=>rfl,λi o t _ _ hD=>(Bool.false_ne_true hD).elim,by simpa using z0⟩ t
 .have e:(decide (g<ops.size)&&D g)=(decide (g<ops.size)&&D' g):=by
   by_cases k:g<ops.size
   .rw[M g k]
   .simp[k]
  rw[<- e];exact⟨q,r,λi o t hi w B=>n i o t hi w (by rw[M i (auv.1 hi).1];exact B),u⟩
 .have hw:R9 o (jV ops e)=J:=by simp[R9,hg i o y]
  rw[if_pos hw];have a7:=step i o y e s h q r (decide (g<ops.size)&&D g) u (λk=>by subst k;rw[B,auV]) (λx bk hb f a a8 l=>n x.on f a a8 l (az x bk hb))
  refine vR (λe' L I h' ⟨r1,v,r2,E⟩=> ?_) (pz a7);subst r2;refine⟨r1,?_⟩;have W:∀a,(∀(j:Nat) (f:sa),ops[j]? =C f->f.dst≠C a)->b7 e o.dst v a=e0 a:=λa G=>by
   cases w:o.dst with
   |none=>exact r a G
   |some t=>rw[eU,aL,if_neg (λe'=>G i o y (by rw[w,e']))];exact r a G
  have S:∀(j:Nat) (f:sa) (a:Nat),j≠i->ops[j]? =C f->f.dst=C a->b7 e o.dst v a=e a:=λj f a p m l=>by
   cases w:o.dst with
   |none=>rfl
   |some t=>rw[eU,aL,if_neg (λe'=>p (hd j i f o t m y (by rw[l,e']) w))]
  by_cases k:i=g
  .subst k;simp only[if_true]at E;obtain⟨H,A,eZ⟩:=E;have K:(decide (i<ops.size)&&D i)=q9:=by rw[B,auV]
   rw[K]at n;simp only[if_true,hi,decide_true,awH];refine⟨R0 _ _ q A,W,λj f a m l z=> ?_,H⟩;by_cases p:j=i
   .subst p;rw[y]at m;cases m;rw[l,eU,aL,if_pos rfl];exact eZ
   .simp only[if_neg p]at z;rw[S j f a p m l];exact FR _ _ _ _ A (n j f a m l z)
  .simp only[if_neg k]at E;obtain⟨H,A,eZ⟩:=E;subst H;simp only[if_neg (λe=>k (Eq.symm e):¬g=i)];refine⟨λb x hb=>A b x (q b x hb),W,λj f a m l z=> ?_,u⟩;by_cases p:j=i
   .subst p;rw[y]at m;cases m;rw[l,eU,aL,if_pos rfl];exact eZ
   .simp only[if_neg p]at z;rw[S j f a p m l];exact Fm _ _ _ _ _ A (n j f a m l z)
 .have K:(decide (g<ops.size)&&D g)=decide (g<ops.size):=by
   by_cases k:g<ops.size
   .rw[Q g k,awH]
   .simp[k]
  rw[K]at n u;exact bd e s h q r (λi o t hi w=>n i o t hi w (Q i (auv.1 hi).1)) u
end
def mE:List sa->Bool
 | []=>J
 |o::l=>o.guard.isNone&&(l.all λa=>a.dst != o.dst||o.dst.isNone)&&mE l
def uD:∀{l:List sa},mE l=J->∀{i:Nat} {o:sa},l[i]? =C o->o.guard=o0
 | [],_,i,o,hi=>by simp at hi
 |a::l,h,i,o,hi=>by
  simp only[mE,vh]at h;cases i with
  |zero=>simp at hi;subst hi;exact Option.isNone_iff_eq_none.1 h.1.1
  |succ i=>exact uD h.2 (by simpa using hi)
def uE:∀{l:List sa},mE l=J->∀{i j:Nat} {o c:sa},l[i]? =C o->l[j]? =C c->o.dst=c.dst->o.dst≠o0->i=j
 | [],_,i,j,o,c,hi,_,_,_=>by simp at hi
 |a::l,h,i,j,o,c,hi,b,d,e=>by
  simp only[mE,vh]at h;cases i with
  |zero=>
   cases j with
   |zero=>rfl
   |succ j=>simp at hi b;subst hi;have:=G0.1 h.1.2 c (aum b);simp[d]at this;exact absurd (d.trans this) e
  |succ i=>
   cases j with
   |zero=>simp at hi b;subst b;have:=G0.1 h.1.2 o (aum hi);simp[d]at this;exact absurd (d.trans this) e
   |succ j=>exact congrArg (· +1) (uE h.2 (by simpa using hi) (by simpa using b) d e)
section
variable{P:tb}{main:Bool}{ai:Type}{Sy:Sys ai}{b:aS}{d:List tc}{l:List sa}{N:Env->List tc->ai->ae->Prop}
def DT(w:mE l=J)(K:l5 0 l=J)(B:P.follows .mixedOrders=J)
  (g:Nat) (F:Bool->Nat->o5->ae->Prop) (Fm:∀c i v h h',h.ar h'->F c i v h->F c i v h') (Zz:Bool->ai->Prop) {e0:Env} {aP:ai} {h0:ae} (R:ae->ae->Prop) (D:∀h h',h0.ar h->R h h'->h0.ar h') (E:∀i v h h',R h h'->F q9 i v h->F J i v h') (L:Zz q9 aP)
  (step:∀(i:Nat) (o:sa),l[i]? =C o->∀e s h,h0.ar h->(∀a,l.all (λf=>f.dst != C a)=J->e a=e0 a)->∀c,Zz c s->(i=g->c=q9)->(∀(j a:Nat),(o.after.toList.any λx=>x.on==j&&atV .any x)=J->(l[j]?).bind (·.dst)=C a->F c j (e a) h)->
   bP P main Sy b o e d s h λe' G y h'=>G=d/\∃v,e'=b7 e o.dst v/\(if i=g then Zz J y/\R h h'/\F J i v h' else y=s/\h.ar h'/\F c i v h'))
  (M:∀e s h,h0.ar h->(∀a,l.all (λf=>f.dst != C a)=J->e a=e0 a)->(∀(i a:Nat),(l[i]?).bind (·.dst)=C a->F (decide (g<l.length)) i (e a) h)->Zz (decide (g<l.length)) s->N e d s h) (t:Nat):
  fO P main Sy b l.toArray (atM (P.follows .mixedOrders) l.toArray t) e0 d aP h0 N:=by
 have H:l.toArray.size=l.length:=Y
 have z:∀{a},l.all (λf=>f.dst != C a)=J->∀(j:Nat) (f:sa),l.toArray[j]? =C f->f.dst≠C a:=λ{a} h j f k=>by have:=G0.1 h f (aum (by simpa using k));simpa using this
 refine afh (ops:=l.toArray) K B (λi o hi=>uD w (by simpa using hi)) (λi j o f t hi k h1 Q=>uE w (by simpa using hi) (by simpa using k) (h1.trans Q.symm) (by rw[h1];simp)) g F Fm Zz R D E L ?_ ?_ t
 .intro i o hi e s h p q c m I n;refine step i o (by simpa using hi) e s h p (λa h'=>q a (z h')) c m I λj a A k=> ?_;rw[List.any_eq_true]at A;obtain⟨x,S,hb⟩:=A;simp only[vh,beq_iff_eq]at hb;obtain⟨rfl,hb⟩:=hb;obtain⟨f,r,u⟩:=auK.1 k;exact n x (by simpa using S) hb f a (by simpa using r) u
 .intro e s h p q m n;rw[H]at m n;refine M e s h p (λa h'=>q a (z h')) (λi a hi=> ?_) n;obtain⟨f,r,u⟩:=auK.1 hi;exact m i f a (by simpa using r) u
end
section
variable{main:Bool}{ai:Type}{Sy:Sys ai}{s:ai}{h:ae}{b:aS}
def afi{a b:bX}(c:a∈dm)(hb:b∈dm):qK (eP fp iU 30 62 [xS [a,b]] (gd [m9 [a,b]]))=C (gr 0 [a,b]):=HH (G0.1 (G0.1 aaD a c) b hb)
def Rw{p k:Nat}{o:Bool}{a b:bX}(g:a∈dm)(hb:b∈dm)(j:iA h p k [a,b] o):bz pv 62=J/\bo pv main Sy 62 ⟨[.slice (C ⟨p,0,o0⟩) 2 k]⟩ s h λd h' v=>d=s/\h.ar h'/\v=.int .i64 (gr 0 [a,b]):=by
 have e:=afi g hb;unfold qK at e;split at e
 .rename_i n H' l;cases e;obtain⟨m,q⟩:=uz (main:=main) (Sy:=Sy) (s:=s) (bs:=[(p,k)]) (h:=h) (args':=[.slice (C ⟨p,0,o0⟩) 2 k]) l rfl CV (λi x bG k' h1 f=>by
    match i with
    | 0=>simp at h1 f;obtain⟨rfl,rfl⟩:=f;subst h1;exact xW j
    |i+1=>simp at h1)
   (.cons (by have:=bj.sl (ρ:=iz [(p,k)]) (c:=12) (b:=p) (k:=k) 0 2 df rfl;rw[oy]at this;exact this) .nil)
  exact⟨m,q.mono λd h' v ⟨r,t,bq,w,u,y⟩=>⟨r,t,by cases u;rfl⟩⟩
 .cases e
def aY(b:Nat):o5:=.pointer (C ⟨b,0,o0⟩)
def mF(l:Nat):o5:=.func (.yield l) #[] #[]
def oD(ap bp yp np:Nat):o5:=.func (.func 141) #[] #[aY ap,aY bp,aY yp,aY np]
structure Ctx(h:ae)(ap bp yp np l:Nat)(bS:Int):Prop where
 a:∃o,h ap=C ⟨.cells #[.int .i64 bS] 3 (0,0),o⟩
 b:∃arr o x y m n,h bp=C ⟨.cells arr 119 (0,0),o⟩/\arr[0]? =C (.slice x 2 m)/\arr[1]? =C (.slice y 2 n)
 y:∃o,h yp=C ⟨.cells #[mF l] 264 (0,0),o⟩
 n:∃o,h np=C ⟨.cells #[oD ap bp yp np] 264 (0,0),o⟩
def Ctx.le{h h':ae}{ap bp yp np l:Nat}{bS:Int}(Cz:Ctx h ap bp yp np l bS)(le:h.ar h'):Ctx h' ap bp yp np l bS:=by obtain⟨⟨g,a⟩,⟨arr,i,x,y,m,n,b,bG⟩,⟨e,c⟩,f,d⟩:=Cz;exact⟨⟨g,le _ _ a⟩,⟨arr,i,x,y,m,n,le _ _ b,bG⟩,⟨e,le _ _ c⟩,f,le _ _ d⟩
def JN:fS pv 264=C o0:=O
def Rx:fS pv 23=C o0:=O
def afj:fS pv 22=C o0:=O
def Ry{m:Nat}[K:KK o5]:al pv (at3 119 (.pointer (C ⟨m,0,o0⟩)) 0) h=K.f (.pointer (C ⟨m,0,o0⟩)) h:=m1 (ft:=25) (m:=3) (i:=0) Tryz.underlying119 rfl rfl O
def afk{m:Nat}[K:KK o5]:al pv (at3 25 (.pointer (C ⟨m,0,o0⟩)) 0) h=K.f (.pointer (C ⟨m,0,o0⟩)) h:=m1 (ft:=22) (m:=0) (i:=0) ay1 rfl rfl O
def Rz{m:Nat}[K:KK o5]:al pv (at3 25 (.pointer (C ⟨m,0,o0⟩)) 1) h=K.f (.pointer (C ⟨m,1,o0⟩)) h:=m1 (ft:=23) (m:=0) (i:=1) ay1 rfl rfl O
def DU{a:Option Addr}{n c:Nat}[K:KK o5]:al pv (Builtin.len_ #[58] 3 #[.slice a n c]) h=K.f (.int .i64 n) h:=uf Tryz.underlying58
def RA{a:Option Addr}{n c:Nat}[K:KK o5]:al pv (Builtin.len_ #[23] 3 #[.slice a n c]) h=K.f (.int .i64 n) h:=uf Tryz.underlying23
def afl{a:Option Addr}{n c:Nat}[K:KK o5]:al pv (Builtin.len_ #[22] 3 #[.slice a n c]) h=K.f (.int .i64 n) h:=uf Tryz.underlying22
def JO{e:Env}{d:List tc}{N:Env->List tc->ai->ae->Prop}{ap bp yp np l:Nat}{bS:Int}{p0 m0 k0:Nat}{g:o5}{n:Int}(j:g=.slice (C ⟨p0,0,o0⟩) m0 k0)(e0:e 0=g)(e1:e 1=aY ap)(Cz:Ctx h ap bp yp np l bS)
  (x:∀h1,h.ar h1->bz pv 62=J/\bo pv main Sy 62 #[g] s h1 λf h' v=>f=s/\h1.ar h'/\v=.int .i64 n)
  (k:∀e' h',h.ar h'->(∀t,t≠9->t≠10->t≠11->t≠12->e' t=e t)->e' 12=.bool (decide (n>bS))->N e' d s h') (t:Nat):
  fO pv main Sy b x6.toArray (atM (pv.follows .mixedOrders) x6.toArray t) e d s h N:=by
 refine DT (l:=x6) rfl rfl eR 1000 (λc i v h=>match i with
   | 0=>v=g
   | 1=>v=.int .i64 n
   | 2=>v=.int .i64 bS
   | 3=>v=.bool (decide (n>bS))
   |_=>True) (λc i v h h' _ q=>by match i with|0=>exact q|1=>exact q|2=>exact q|3=>exact q|i+4=>trivial)
  (λ_ f=>f=s) (λh h'=>h.ar h') (λh h' a b=>le_trans a b) (λi v h h' _ q=>by match i with|0=>exact q|1=>exact q|2=>exact q|3=>exact q|i+4=>trivial) rfl ?_ ?_ t
 .intro i o hi e' f h1 m p c r _ u;have r:f=s:=r;subst r;have y:e' 0=.slice (C ⟨p0,0,o0⟩) m0 k0:=by rw[p 0 rfl,e0,j]
  have B:e' 1=aY ap:=by rw[p 1 rfl,e1]
  match i,hi with
  | 0,hi=>cases hi;simp only[bP,gJ,aO,seval,y];exact⟨trivial,_,rfl,trivial,λ_ _ e=>e,j.symm⟩
  | 1,hi=>
   cases hi;have F:e' 9=.slice (C ⟨p0,0,o0⟩) m0 k0:=by rw[<- j];exact u 0 9 rfl rfl
   simp only[bP,gJ,aO,seval,F];obtain⟨G,q⟩:=x h1 m;rw[j]at q;refine .inl ⟨G,q.mono λS w v ⟨H,I,L⟩=> ?_⟩;exact⟨rfl,_,rfl,H,I,L⟩
  | 2,hi=>cases hi;obtain⟨W,D⟩:=(Cz.le m).a;simp only[bP,gJ,aO,seval,B,aY];rw[jK (K:=⟨_⟩) wh (A:=⟨ap,0,o0⟩) D rfl rfl];exact⟨rfl,_,rfl,rfl,λ_ _ e=>e,rfl⟩
  | 3,hi=>cases hi;have M:e' 10=.int .i64 n:=u 1 10 rfl rfl;have P:e' 11=.int .i64 bS:=u 2 11 rfl rfl;simp only[bP,gJ,aO,seval,M,P];exact⟨trivial,_,rfl,trivial,λ_ _ e=>e,rfl⟩
  |i+4,hi=>simp[x6]at hi
 .intro e' f h1 m p E z;subst z;exact k e' h1 m (λt h1 w Q R=>p t (by simp[x6,zz h1,zz w,zz Q,zz R])) (E 3 12 rfl)
def pM(main:Bool){ai:Type}(Sy:Sys ai)(l:Nat)(a b:bX)(s:ai)(h:ae)(Zz:ai->Prop):Prop:=∀h1 c k',h.ar h1->h c=o0->iA h1 c k' [a,b] J->∃L o q,h1 l=C ⟨.loop L,o⟩/\L.params=#[q]/\ki pv main Sy l L.fn (L.tmps.setIfInBounds q (.slice (C ⟨c,0,o0⟩) 2 k')) L.assign L.body s h1
   λd h' v=>Zz d/\(∀b x,b≠c->h1 b=C x->h' b=C x)/\v=.bool J
def pM.le{l:Nat}{a b:bX}{h':ae}{Zz:ai->Prop}(g:pM main Sy l a b s h Zz)(le:h.ar h'):pM main Sy l a b s h' Zz:=λh1 c k' e d f=>g h1 c k' (le_trans le e) (by
 cases i:h c with
 |none=>rfl
 |some x=>rw[le _ _ i]at d;cases d) f
def afm{e:Env}{d:List tc}{N:Env->List tc->ai->ae->Prop}{ap bp yp np l p k:Nat}{bS:Int}{o:Bool}{x y:bX}{Zz:ai->Prop}(e0:e 0=.slice (C ⟨p,0,o0⟩) 2 k)(e3:e 3=aY yp)(Cz:Ctx h ap bp yp np l bS)
  (H:iA h p k [x,y] o) (ag:pM main Sy l x y s h Zz)
  (az:∀e' g h',h.ar h'->Zz g->e' 6=.bool J->N e' d g h') (t:Nat):
  fO pv main Sy b xZ.toArray (atM (pv.follows .mixedOrders) xZ.toArray t) e d s h N:=by
 refine DT (l:=xZ) rfl rfl eR 3 (λc i v h'=>match i with
   | 0=>v=mF l
   | 1=>v=.slice (C ⟨p,0,o0⟩) 2 k
   | 2=>c=q9->∃f k',v=.slice (C ⟨f,0,o0⟩) 2 k'/\h f=o0/\iA h' f k' [x,y] J
   | 3=>v=.bool J
   | 4=>v=.bool J
   |_=>True) (λc i v h h' le q=>by
    match i with
    | 0=>exact q
    | 1=>exact q
    | 2=>exactλhc=>by obtain⟨f,k',n,r,I⟩:=q hc;exact⟨f,k',n,r,I.le le⟩
    | 3=>exact q
    | 4=>exact q
    |i+5=>trivial)
  (λc g=>if c then Zz g else g=s) (λh1 h'=>∃f,h f=o0/\∀b x,b≠f->h1 b=C x->h' b=C x) (λh1 h' a ⟨f,n,r⟩ b x hb=>r b x (λe=>by subst e;rw[n]at hb;cases hb) (a b x hb)) (λi v h h' _ q=>by
    match i with
    | 0=>exact q
    | 1=>exact q
    | 2=>exactλhc=>by cases hc
    | 3=>exact q
    | 4=>exact q
    |i+5=>trivial) rfl ?_ ?_ t
 .intro i o' hi e' g h1 j w c u M m;have P:e' 0=.slice (C ⟨p,0,o0⟩) 2 k:=by rw[w 0 rfl,e0]
  have Q:e' 3=aY yp:=by rw[w 3 rfl,e3]
  match i,hi with
  | 0,hi=>cases hi;obtain⟨o1,R⟩:=(Cz.le j).y;simp only[bP,gJ,aO,seval,Q,aY];rw[jK (K:=⟨_⟩) JN (A:=⟨yp,0,o0⟩) R rfl rfl];exact⟨rfl,_,rfl,rfl,λ_ _ e=>e,rfl⟩
  | 1,hi=>cases hi;simp only[bP,gJ,aO,seval,P];exact⟨trivial,_,rfl,trivial,λ_ _ e=>e,rfl⟩
  | 2,hi=>
   cases hi;have a7:e' 21=.slice (C ⟨p,0,o0⟩) 2 k:=m 1 21 rfl rfl;simp only[bP,gJ,aO,seval,a7];obtain⟨ck,q⟩:=aaT (main:=main) (Sy:=Sy) (s:=g) (H.le j);refine .inl ⟨ck,q.mono λs2 h2 v ⟨B,D,f,k',E,S,F⟩=> ?_⟩;refine⟨rfl,_,rfl,B,D,λ_=>⟨f,k',E,?_,S⟩⟩;cases hh:h f with
   |none=>rfl
   |some x=>rw[j _ _ hh]at F;cases F
  | 3,hi=>cases hi;have hc:=M rfl;subst hc;have u:g=s:=u;subst u;have bh:e' 20=mF l:=m 0 20 rfl rfl;obtain⟨f,k',bk,G,W⟩:=(show q9=q9->∃f k',e' 22=.slice (C ⟨f,0,o0⟩) 2 k'/\h f=o0/\iA h1 f k' [x,y] J from m 2 22 rfl rfl) rfl;obtain⟨L,o1,q,X,ab,hR⟩:=ag h1 f k' j G W;simp only[bP,gJ,aO,seval,bh,bk,mF];rw[DR (K:=⟨_⟩) X ab];refine ki.mono (λs2 h2 v ⟨B,D,E⟩=> ?_) hR;exact⟨rfl,_,rfl,B,⟨f,G,D⟩,E⟩
  | 4,hi=>cases hi;have bl:e' 23=.bool J:=m 3 23 rfl rfl;simp only[bP,gJ,aO,seval,bl];exact⟨trivial,_,rfl,trivial,λ_ _ e=>e,rfl⟩
  |i+5,hi=>simp[xZ]at hi
 .intro e' g h1 j w fc z;exact az e' g h1 j (by simpa[xZ]using z) (fc 4 6 rfl)
def RB:bz pv 141=J:=O
def afn{ap bp yp np l p k:Nat}{bS:Int}{o:Bool}{x y:bX}{Zz:ai->Prop}(B:x∈dm)(i:y∈dm)(Cz:Ctx h ap bp yp np l bS)(e:iA h p k [x,y] o)(G:gr 0 [x,y]<=bS)(D:pM main Sy l x y s h Zz):bo pv main Sy 141 #[.slice (C ⟨p,0,o0⟩) 2 k,aY ap,aY bp,aY yp,aY np] s h λE h' v=>Zz E/\h.ar h'/\v=.bool J:=by
 refine bL (n:=50) (args:=[.slice (C ⟨p,0,o0⟩) 2 k,aY ap,aY bp,aY yp,aY np]) az8 Il rfl Y Im ?_;simp only[aO,seval,Ik,Ij,Ii,Ih];intro t;refine JO (p0:=p) (m0:=2) (k0:=k) (bS:=bS) (l:=l) rfl (by simp[aL,dC]) (by simp[aL,dC]) Cz (λh1 a=>Rw B i (e.le a)) (λd h1 a c f=> ?_) t;have hd:decide (gr 0 [x,y]>bS)=q9:=atB
 rw[hd]at f;have g:d 0=.slice (C ⟨p,0,o0⟩) 2 k:=by rw[c 0 aty aty aty aty];simp[aL,dC]
 have j:d 2=aY bp:=by rw[c 2 aty aty aty aty];simp[aL,dC]
 have m:d 3=aY yp:=by rw[c 3 aty aty aty aty];simp[aL,dC]
 obtain⟨arr,L,H,q,M,bK,hb,I,r⟩:=(Cz.le a).b;have u:∀(b:aS) (K:ai->ae->o5->Prop),@eX pv main _ Sy b 23 (.pointer (C ⟨bp,1,o0⟩)) s h1 ⟨K⟩=K s h1 (.slice q 2 bK):=λb K=>jK (K:=⟨K⟩) Rx (A:=⟨bp,1,o0⟩) hb rfl r;simp only[aO,seval,Ig,P8,P7,P6,acN,acM,f,g,j,aY,DU,Ry,Rz,u,RA];intro cU;refine afm (ap:=ap) (bp:=bp) (np:=np) (bS:=bS) (by simp[aL,g]) (by simp[aL,m]) (Cz.le a) (e.le a) (D.le a) (λN P Q w F z=> ?_) cU;simp only[aO,seval];refine bu az9 Y ?_;exact⟨F,le_trans a w,z⟩
end
def JP:vb->List o5->aE->Option (o5×aE):=λ_ _ _=>o0
def Ay:List (Nat×o5)->cL
 | []=>.nil
 |x::l=>(Ay l).put (C x.1) x.2
section
variable{main:Bool}{ai:Type}{Sy:Sys ai}{s:ai}{h:ae}{b:aS}{e:Env}{d:List tc}{N:Env->List tc->ai->ae->Prop}
def DV{cbs:List cj}{bs:List (Nat×Nat)}{o:sa}{xo:dh}{E:cL}{v:o5}{H':aE}(hc:qF pv o=xo)(l:cy JP E (gd cbs) xo=C (v,H'))
  (r:bs.length=cbs.length) (fP:∀(i j b k k':Nat),bs[i]? =C (b,k)->bs[j]? =C (b,k')->i=j) (hb:∀(i:Nat) (x:cj) (b k:Nat),cbs[i]? =C x->bs[i]? =C (b,k)->Bk pv (iz bs) k x (h b))
  (t:∀x∈xo.di,bj (iz bs) (bW E x) (aA e x))
  (u:∀bq h' a,(iz bs).ar bq->h.ar h'->cD pv 12 bq H'.get H'.an h'->bj bq v a->(∀c x b k,H'.get c=C x->12+cbs.length<=c->x.live=J->bq c=C (b,k)->h b=o0)->N (b7 e o.dst a) d s h'):bP pv main Sy b o e d s h N:=by
 subst hc;have n:∀c,¬gL (gd cbs) c:=λc ⟨z,y,g,_⟩=>by
  rw[CO]at z;rw[xR]at g;split at g
  .cases g
  .have:=(List.getElem?_eq_some_iff.1 g).1;omega
 refine Hn (Jz:=λp=>p=s) (call:=JP) l (Px r fP hb) (by rw[vU];omega) rfl (λf xs v H H' l=>by cases l) t λp bq h' a A B D m=> ?_;subst A;refine u bq h' a m.le (λb x w=>m.lZ b x w λc k F _=>n c F) B D λc x b k h1 G I K=> ?_;rcases m.lB c x b k h1 (by rw[vU];exact G) I K with q|⟨dy,k0,q,_⟩
 .exact q
 .exact absurd q (n dy)
end
section
variable{main:Bool}{ai:Type}{Sy:Sys ai}{s:ai}{h:ae}{b:aS}
def afo{ap bp yp np l p k:Nat}{bS:Int}{o:Bool}{x y:bX}{Zz:ai->Prop}(f:x∈dm)(b:y∈dm)(Cz:Ctx h ap bp yp np l bS)(c:iA h p k [x,y] o)(g:bS<gr 0 [x,y]->Zz s)(i:gr 0 [x,y]<=bS->pM main Sy l x y s h Zz):bo pv main Sy 141 #[.slice (C ⟨p,0,o0⟩) 2 k,aY ap,aY bp,aY yp,aY np] s h λj h' v=>Zz j/\h.ar h'/\v=.bool J:=by
 by_cases d:gr 0 [x,y]<=bS
 .exact afn f b Cz c d (i d)
 refine bL (n:=50) (args:=[.slice (C ⟨p,0,o0⟩) 2 k,aY ap,aY bp,aY yp,aY np]) az8 Il rfl Y Im ?_;simp only[aO,seval,Ik,Ij,Ii,Ih];intro t;refine JO (p0:=p) (m0:=2) (k0:=k) (bS:=bS) (l:=l) rfl (by simp[aL,dC]) (by simp[aL,dC]) Cz (λh1 a=>Rw f b (c.le a)) (λq h1 a m e=> ?_) t;have hd:decide (gr 0 [x,y]>bS)=J:=atB
 rw[hd]at e;simp only[aO,seval,Ig,acO,e];refine bu az9 Y ?_;exact⟨g U,a,by simp[aL]⟩
def pN(h:ae)(p:Nat)(x:bX)(o:Bool):Prop:=h p=C ⟨.cells (iL [x]).toArray 57 (0,0),o⟩
def DW{ρ:aX}{h:ae}{p k:Nat}{x:bX}{o:Bool}(q:pN h p x o):Bk pv ρ k (sV [x]) (h p):=⟨_,o,iL [x],[],q,(by intro q;cases q),Y,CS ρ _,λ_=>rfl,by intro q;cases q⟩
def afp{e:Env}{d:List tc}{N:Env->List tc->ai->ae->Prop}{ap bp yp np l p:Nat}{bS:Int}{o:Bool}{x:bX}{i j:Int}{Zz:ai->Prop}(e0:e 0=.slice (C ⟨p,0,o0⟩) 1 1)(e4:e 4=aY np)(e7:e 7=.int .i64 i)(e8:e 8=.int .i64 j)(Cz:Ctx h ap bp yp np l bS)
  (hp:pN h p x o) (NC:∀h1 q k,h.ar h1->h q=o0->iA h1 q k [x,(i,j)] J->bo pv main Sy 141 #[.slice (C ⟨q,0,o0⟩) 2 k,aY ap,aY bp,aY yp,aY np] s h1 λw h' v=>Zz w/\h1.ar h'/\v=.bool J)
  (b9:∀e' w h',h.ar h'->(∀t,t<34->e' t=e t)->Zz w->e' 47=.bool q9->N e' d w h') (t:Nat):
  fO pv main Sy b vY.toArray (atM (pv.follows .mixedOrders) vY.toArray t) e d s h N:=by
 refine DT (l:=vY) rfl rfl eR 12 (λc n v h'=>match n with
   | 0=>v=oD ap bp yp np
   | 1=>v=.slice (C ⟨p,0,o0⟩) 1 1
   | 2=>v=.slice (C ⟨p,0,o0⟩) 1 1
   | 3=>v=.int .i64 1
   | 4=>v=.slice (C ⟨p,0,o0⟩) 1 1
   | 5=>v=.int .i64 1
   | 6=>v=.slice (C ⟨p,0,o0⟩) 1 1
   | 7=>v=.int .i64 i
   | 8=>v=.int .i64 j
   | 9=>v=.agg #[.int .i64 i,.int .i64 j]
   | 10=>∃q,v=.slice (C ⟨q,0,o0⟩) 1 1/\q≠p/\pN h' q (i,j) J
   | 11=>∃q k,v=.slice (C ⟨q,0,o0⟩) 2 k/\h q=o0/\iA h' q k [x,(i,j)] J
   | 12=>v=.bool J
   | 13=>v=.bool q9
   |_=>True) (λc n v h' bk le q=>by
    match n with
    | 0|1|2|3|4|5|6|7|8|9|12|13=>exact q
    | 10=>obtain⟨f,a1,a2,a3⟩:=q;exact⟨f,a1,a2,le _ _ a3⟩
    | 11=>obtain⟨f,D,a1,a2,a3⟩:=q;exact⟨f,D,a1,a2,a3.le le⟩
    |n+14=>trivial)
  (λc w=>if c then Zz w else w=s) (λh1 h'=>h1.ar h') (λh1 h' a q=>le_trans a q) (λn v h' bk le q=>by
    match n with
    | 0|1|2|3|4|5|6|7|8|9|12|13=>exact q
    | 10=>obtain⟨f,a1,a2,a3⟩:=q;exact⟨f,a1,a2,le _ _ a3⟩
    | 11=>obtain⟨f,D,a1,a2,a3⟩:=q;exact⟨f,D,a1,a2,a3.le le⟩
    |n+14=>trivial) rfl ?_ ?_ t
 .intro n o' hi e' w h1 y I c ad hl g;have af:e' 0=.slice (C ⟨p,0,o0⟩) 1 1:=by rw[I 0 rfl,e0]
  have bm:e' 4=aY np:=by rw[I 4 rfl,e4]
  have bn:e' 7=.int .i64 i:=by rw[I 7 rfl,e7]
  have bt:e' 8=.int .i64 j:=by rw[I 8 rfl,e8]
  have fresh:∀q,h1 q=o0->h q=o0:=λq R=>by
   cases hh:h q with
   |none=>rfl
   |some x=>rw[y _ _ hh]at R;cases R
  match n,hi with
  | 0,hi=>cases hi;obtain⟨o1,ha⟩:=(Cz.le y).n;simp only[bP,gJ,aO,seval,bm,aY];rw[jK (K:=⟨_⟩) JN (A:=⟨np,0,o0⟩) ha rfl rfl];exact⟨rfl,_,rfl,rfl,λ_ _ e=>e,rfl⟩
  | 1,hi=>cases hi;simp only[bP,gJ,aO,seval,af];exact⟨trivial,_,rfl,trivial,λ_ _ e=>e,rfl⟩
  | 2,hi=>cases hi;simp only[bP,gJ,aO,seval,af];exact⟨trivial,_,rfl,trivial,λ_ _ e=>e,rfl⟩
  | 3,hi=>cases hi;have q:e' 36=.slice (C ⟨p,0,o0⟩) 1 1:=g 2 36 rfl rfl;simp only[bP,gJ,aO,seval,q,DU];exact⟨trivial,_,rfl,trivial,λ_ _ e=>e,rfl⟩
  | 4,hi=>cases hi;simp only[bP,gJ,aO,seval,af];exact⟨trivial,_,rfl,trivial,λ_ _ e=>e,rfl⟩
  | 5,hi=>cases hi;have q:e' 38=.slice (C ⟨p,0,o0⟩) 1 1:=g 4 38 rfl rfl;simp only[bP,gJ,aO,seval,q,DU];exact⟨trivial,_,rfl,trivial,λ_ _ e=>e,rfl⟩
  | 6,hi=>
   cases hi;have f:e' 35=.slice (C ⟨p,0,o0⟩) 1 1:=g 1 35 rfl rfl;have L:e' 37=.int .i64 1:=g 3 37 rfl rfl;have q3:e' 39=.int .i64 1:=g 5 39 rfl rfl;refine DV (cbs:=[sV [x]]) (bs:=[(p,1)]) (E:=Ay [(35,rG [x]),(37,.int .i64 1),(39,.int .i64 1)]) (xo:=.sl 57 2 (.tmp 35) o0 (C (.tmp 37)) (C (.tmp 39))) (v:=rG [x]) (H':=gd [sV [x]]) O O rfl CV (λi x bG k' h1 m=>by
    match i with
    | 0=>simp at h1 m;obtain⟨rfl,rfl⟩:=m;subst h1;exact DW (y _ _ hp)
    |i+1=>simp at h1) (λz r=> ?_) (λbq h' F W le S B aK=> ?_)
   .simp only[dh.di,Option.toList,List.nil_append,List.cons_append,B4,auo,or_false]at r;rcases r with rfl|rfl|rfl
    .show bj _ (rG [x]) (e' 35);rw[f];exact bj.sl (ρ:=iz [(p,1)]) (c:=12) (b:=p) (k:=1) 0 1 1 rfl
    .show bj _ (.int .i64 1) (e' 37);rw[L];exact .int _ _
    .show bj _ (.int .i64 1) (e' 39);rw[q3];exact .int _ _
   .refine⟨rfl,_,rfl,rfl,le,?_⟩
    match F,B with
    |_,.sl (b:=bM) (k:=D) _ _ _ e'=>rw[W 12 (p,1) rfl]at e';cases e';rfl
  | 7,hi=>cases hi;simp only[bP,gJ,aO,seval,bn];exact⟨trivial,_,rfl,trivial,λ_ _ e=>e,rfl⟩
  | 8,hi=>cases hi;simp only[bP,gJ,aO,seval,bt];exact⟨trivial,_,rfl,trivial,λ_ _ e=>e,rfl⟩
  | 9,hi=>
   cases hi;have f:e' 41=.int .i64 i:=g 7 41 rfl rfl;have L:e' 42=.int .i64 j:=g 8 42 rfl rfl;refine DV (cbs:=[]) (bs:=[]) (E:=Ay [(41,.int .i64 i),(42,.int .i64 j)]) (xo:=.build [.int .i64 0,.int .i64 0] [(0,1,(.tmp 41)),(1,1,(.tmp 42))]) (v:=.agg ⟨[.int .i64 i,.int .i64 j]⟩) (H':=gd []) O O rfl (λi j b k k' h1 m=>by simp at h1) (λi x bG k' h1 m=>by simp at h1) (λz r=> ?_) (λbq h' F W le S B aK=> ?_)
   .simp only[dh.di,atS,awD,B4,auo,or_false]at r;rcases r with rfl|rfl
    .show bj _ (.int .i64 i) (e' 41);rw[f];exact .int _ _
    .show bj _ (.int .i64 j) (e' 42);rw[L];exact .int _ _
   .refine⟨rfl,_,rfl,rfl,le,?_⟩
    match F,B with
    |_,.agg (.cons (.int _ _) (.cons (.int _ _) .nil))=>rfl
  | 10,hi=>
   cases hi;have f:e' 43=.agg #[.int .i64 i,.int .i64 j]:=g 9 43 rfl rfl;refine DV (cbs:=[]) (bs:=[]) (E:=Ay [(43,.agg ⟨[.int .i64 i,.int .i64 j]⟩)]) (xo:=.buildSlice 57 2 1 [.int .i64 0,.int .i64 0] [(0,2,(.tmp 43))]) (v:=.slice (C ⟨12,0,o0⟩) 1 1) (H':=(gd []).new (.cs J q9 57 [.int .i64 i,.int .i64 j])) O O rfl (λi j b k k' h1 m=>by simp at h1) (λi x bG k' h1 m=>by simp at h1) (λz r=> ?_) (λbq h' F W le S B aK=> ?_)
   .simp only[dh.di,atS,awD,B4,auo,or_false]at r;subst r;show bj _ (.agg ⟨[.int .i64 i,.int .i64 j]⟩) (e' 43);rw[f];exact .agg (.cons (.int _ _) (.cons (.int _ _) .nil))
   .have M:((gd []).new (.cs J q9 57 [.int .i64 i,.int .i64 j])).get 12=C (.cs J q9 57 [.int .i64 i,.int .i64 j]):=O
    obtain⟨P,k',G,arr,fu,bJ,rest,X,z2,eZ,nM,qN,z6⟩:=S.blk 12 _ M;have az:=z2 rfl;subst az;have JQ:=qN rfl;subst JQ;have H:=aK 12 _ P k' M Y rfl G;refine⟨rfl,_,rfl,rfl,le,?_⟩
    match F,B with
    |_,.sl (b:=bM) (k:=D) _ _ _ e'=>
     rw[G]at e';cases e';refine⟨P,rfl,(λe=>by subst e;rw[y _ _ hp]at H;cases H),?_⟩;have:arr=(iL [(i,j)]).toArray:=by
      apply auT.1;rw[eZ]
      match bJ,nM with
      |_,.cons (.int _ _) (.cons (.int _ _) .nil)=>rfl
     rw[this]at X;exact X
  | 11,hi=>
   cases hi;have f:e' 40=.slice (C ⟨p,0,o0⟩) 1 1:=g 6 40 rfl rfl;obtain⟨q,L,q3,q4⟩:=(show ∃q,e' 44=.slice (C ⟨q,0,o0⟩) 1 1/\q≠p/\pN h1 q (i,j) J from g 10 44 rfl rfl);have Q:CR (cy JP (Ay [(40,.slice (C ⟨12,0,o0⟩) 1 1),(44,.slice (C ⟨13,0,o0⟩) 1 1)]) (gd [sV [x],sV [(i,j)]]) (.app 57 2 16 (.tmp 40) (.tmp 44)))=C (14,0,2,df,C (.cs J J 57 (iL [x,(i,j)]))):=O
   unfold CR at Q;split at Q
   .rename_i aG o1 bK D H' cc;simp only[Option.some.injEq,Prod.mk.injEq]at Q;obtain⟨rfl,rfl,rfl,rfl,M⟩:=Q;refine DV (cbs:=[sV [x],sV [(i,j)]]) (bs:=[(p,1),(q,1)]) (xo:=.app 57 2 16 (.tmp 40) (.tmp 44)) O cc rfl (PC (zz q3)) (λi x bG k' h1 m=>by
     match i with
     | 0=>simp at h1 m;obtain⟨rfl,rfl⟩:=m;subst h1;exact DW (y _ _ hp)
     | 1=>simp at h1 m;obtain⟨rfl,rfl⟩:=m;subst h1;exact DW q4
     |i+2=>simp at h1) (λz r=> ?_) (λbq h' F W le S B aK=> ?_)
    .simp only[dh.di,B4,auo,or_false]at r;rcases r with rfl|rfl
     .show bj _ (.slice (C ⟨12,0,o0⟩) 1 1) (e' 40);rw[f];exact bj.sl (ρ:=iz [(p,1),(q,1)]) (c:=12) (b:=p) (k:=1) 0 1 1 rfl
     .show bj _ (.slice (C ⟨13,0,o0⟩) 1 1) (e' 44);rw[L];exact bj.sl (ρ:=iz [(p,1),(q,1)]) (c:=13) (b:=q) (k:=1) 0 1 1 rfl
    .obtain⟨P,k',G,arr,fu,bJ,rest,X,z2,eZ,nM,qN,z6⟩:=S.blk 14 _ M;have az:=z2 rfl;subst az;have JR:=CU nM;subst JR;have H:=aK 14 _ P k' M Y rfl G;refine⟨rfl,_,rfl,rfl,le,?_⟩
     match F,B with
     |_,.sl (b:=bM) (k:=D) _ _ _ e'=>rw[G]at e';cases e';exact⟨P,k',by rw[oy],fresh _ H,arr,rest,X,eZ,z6 rfl⟩
   .cases Q
  | 12,hi=>cases hi;have hc:=hl rfl;subst hc;have ad:w=s:=ad;subst ad;have a8:e' 34=oD ap bp yp np:=g 0 34 rfl rfl;obtain⟨q,k,ck,H,R⟩:=(show ∃q k,e' 45=.slice (C ⟨q,0,o0⟩) 2 k/\h q=o0/\iA h1 q k [x,(i,j)] J from g 11 45 rfl rfl);simp only[bP,gJ,aO,seval,a8,ck,oD];rw[zJ (K:=⟨_⟩) RB];refine bo.mono (λs2 m v ⟨G,r2,r3⟩=> ?_) (NC h1 q k y H R);exact⟨rfl,_,rfl,G,r2,r3⟩
  | 13,hi=>cases hi;have f:e' 46=.bool J:=g 12 46 rfl rfl;simp only[bP,gJ,aO,seval,f];exact⟨trivial,_,rfl,trivial,λ_ _ e=>e,rfl⟩
  |n+14,hi=>simp[vY]at hi
 .intro e' w h1 y I fc z;refine b9 e' w h1 y (λt ht=>I t ?_) (by simpa[vY]using z) (fc 13 47 rfl);rw[G0];intro o' b6;have:∀bb∈vY,34<=bb.dst.getD 0/\bb.dst.isSome=J:=aty
  have:=this o' b6;cases hd:o'.dst with
  |none=>rw[hd]at this;cases this.2
  |some u=>rw[hd]at this;have a8:34<=u:=this.1;have b8:u≠t:=Nat.ne_of_gt (Nat.lt_of_lt_of_le ht a8);simpa using b8
end
end
end Go.Nk
