/- Part Pab of the proof of ButtTexts: lemmas. -/
import Derived.Test.YthgephlghkjiaaaGreatDoorPaa
set_option maxRecDepth 100000
set_option maxHeartbeats 4000000
set_option linter.all false
namespace Go.Nk
noncomputable section
open Go Go.Conc Go.Proofs
open _root_.Array renaming getElem?_eq_some_iff->auv,getElem?_setIfInBounds_self_of_lt->axg,getElem?_setIfInBounds_ne->avD,ext'->ayw,getElem?_push->awL,replicate->avf
open Bool renaming true->J,false->q9,false_eq_true->N2
open Go renaming Program->tb,Goroutine->B6,Trace->N1,World->tg,Event->R1,stepG->vx,Frame->vH,Value->o5,doReturn->av3,Deferred->tc,Code->rj,FuncId->vb
open Go.Conc renaming Deaf->T5,woken->avZ,Deaf_other->av1,crowd->awO,runT_crowd_go->aA7,runT_many_ended->aA8
open Go.GStep renaming after->atZ
open Go.Instr renaming takeDeferred->ayx,beginRound->awo,endRound->ave
open Go.MemOp renaming ofEvents->T1
open Go.Sem renaming runT_eq->auP
open Go.stepG renaming exec->atK
open List renaming mem_iff_getElem?->avd,getElem?_drop->axH,getElem?_cons_succ->avl
open Option renaming some->C,none->o0
open Option.some renaming inj->T6
open Prod.Lex renaming left->azx,right->azy
open Sum renaming inl->avc
section
open Go.ConcN (sumTo sumTo_upd sumTo_congr upd upd_same upd_ne le_sumTo)
inductive aN where
 |out|iu (aw:Bool)|iv|py|rB|own|jT|rel
 deriving DecidableEq
structure cK where
 md:Nat->aN
 dc:Nat->Nat
 L:Nat
 K:Nat
 S:Nat
 W:Nat
 M:Nat
namespace aN
def iQ:aN->Nat|.own=>1|_=>0
def jb:aN->Nat|.rel=>1|_=>0
def iq:aN->Nat|.py=>1|_=>0
def jc:aN->Nat|.iu J=>1|_=>0
def iH:aN->Nat|.iv=>1|_=>0
def ir:aN->Nat|.rB=>1|_=>0
def jH:aN->Nat|.jT=>1|_=>0
def wt:aN->Nat
 | .out=>0|.iu q9=>13|.iu J=>12|.iv=>11|.py=>13|.rB=>13|.own=>5|.jT=>4|.rel=>3
end aN
def cnt(n:Nat)(f:aN->Nat)(md:Nat->aN):Nat:=sumTo n (λi=>f (md i))
def sD{n i:Nat}(hi:i<n)(f:aN->Nat)(md:Nat->aN)(x:aN):cnt n f (upd md i x)+f (md i)=cnt n f md+f x:=by have:=sumTo_upd md x f hi;simpa[cnt]using this
def Ym{n:Nat}{f:aN->Nat}{md:Nat->aN}(h:0<cnt n f md):∃i,i<n/\0<f (md i):=by
 induction n with
 |zero=>simp[cnt,sumTo]at h
 |succ n a=>
  by_cases b:0<f (md n)
  .exact⟨n,U,b⟩
  .have:0<cnt n f md:=by simp only[cnt,sumTo]at h ⊢;omega
   obtain⟨i,hi,c⟩:=a this;exact⟨i,U,c⟩
def tT{n i:Nat}(hi:i<n)(f:aN->Nat)(md:Nat->aN):f (md i)<=cnt n f md:=le_sumTo (f:=λi=>f (md i)) hi
def Oh{n i:Nat}(hi:i<n)(b:Nat->Nat)(x:Nat):sumTo n (upd b i x)+b i=sumTo n b+x:=by have:=sumTo_upd b x id hi;simpa using this
namespace cK
def mu(x:cK):Nat:=x.L+2*x.K+4*x.S+8*x.W
def cn(n:Nat)(x:cK):Nat:=cnt n aN.wt x.md+14*sumTo n x.dc+2*x.M
structure dF(n:Nat)(x:cK):Prop where
 l:x.L=cnt n aN.iQ x.md
 fv:x.L<=1
 k1:x.K<=1
 s1:x.S<=1
 n0:x.S=0->x.K=cnt n aN.jb x.md+x.M+cnt n aN.iq x.md+cnt n aN.jc x.md/\cnt n aN.iH x.md=x.W+cnt n aN.jb x.md+x.M/\cnt n aN.ir x.md=0/\(0<x.W->x.L=1\/x.K=1\/0<cnt n aN.jH x.md)
 aP:x.S=1->x.K=0/\cnt n aN.jc x.md=0/\x.L+cnt n aN.jb x.md+x.M+cnt n aN.iq x.md+cnt n aN.ir x.md=1/\x.W=cnt n aN.iH x.md+cnt n aN.iq x.md+cnt n aN.ir x.md
section
variable{n i:Nat}{x:cK}
def set(x:cK)(i:Nat)(m:aN):cK:= {x with md:=upd x.md i m}
def nu{n i:Nat}(hi:i<n)(md:Nat->aN)(m:aN):(cnt n aN.iQ (upd md i m)+(md i).iQ=cnt n aN.iQ md+m.iQ)/\(cnt n aN.jb (upd md i m)+(md i).jb=cnt n aN.jb md+m.jb)/\
  (cnt n aN.iq (upd md i m)+(md i).iq=cnt n aN.iq md+m.iq)/\(cnt n aN.jc (upd md i m)+(md i).jc=cnt n aN.jc md+m.jc)/\
  (cnt n aN.iH (upd md i m)+(md i).iH=cnt n aN.iH md+m.iH)/\(cnt n aN.ir (upd md i m)+(md i).ir=cnt n aN.ir md+m.ir)/\
  (cnt n aN.jH (upd md i m)+(md i).jH=cnt n aN.jH md+m.jH)/\(cnt n aN.wt (upd md i m)+(md i).wt=cnt n aN.wt md+m.wt):=
 ⟨sD hi _ _ _,sD hi _ _ _,sD hi _ _ _,sD hi _ _ _,sD hi _ _ _,sD hi _ _ _,sD hi _ _ _,sD hi _ _ _⟩
def qx{n i:Nat}(hi:i<n)(md:Nat->aN):(md i).iQ<=cnt n aN.iQ md/\(md i).jb<=cnt n aN.jb md/\(md i).iq<=cnt n aN.iq md/\(md i).jc<=cnt n aN.jc md/\(md i).iH<=cnt n aN.iH md/\(md i).ir<=cnt n aN.ir md/\(md i).jH<=cnt n aN.jH md:=
 ⟨tT hi _ _,tT hi _ _,tT hi _ _,tT hi _ _,tT hi _ _,tT hi _ _,tT hi _ _⟩
def go(x:cK)(i:Nat)(m:aN)(L K S W M:Nat):cK:= {md:=upd x.md i m,dc:=x.dc,L:=L,K:=K,S:=S,W:=W,M:=M}
def mV(x:cK)(i:Nat)(m:aN)(L K S W M:Nat):cK:= {md:=upd x.md i m,dc:=upd x.dc i (x.dc i- 1),L:=L,K:=K,S:=S,W:=W,M:=M}
def Yn(h:x.dF n)(hi:i<n)(f:x.md i=.out)(hb:0<x.dc i)(h0:x.mu=0):(x.mV i .own 1 0 0 0 x.M).dF n/\(x.mV i .own 1 0 0 0 x.M).cn n<x.cn n:=by
 obtain⟨a1,a2,a3,g,j,a,b,c⟩:=nu hi x.md .own;have m:=Oh hi x.dc (x.dc i- 1);obtain⟨l,q,r,s,k,aP⟩:=h;simp only[mu]at h0;simp only[f,aN.iQ,aN.jb,aN.iq,aN.jc,aN.iH,aN.ir,aN.jH,aN.wt]at a1 a2 a3 g j a b c;have d:x.S=0:=U
 obtain⟨bM,bE,o,p⟩:=k d;refine⟨⟨?_,?_,?_,?_,λ_=>⟨?_,?_,?_,?_⟩,λe=> ?_⟩,?_⟩<;>(try simp only[mV]at e)<;>(try simp only[mV,cn])<;>(first|omega|exactλ_=>.inl trivial|exactλ_=>.inr (.inl trivial))
def start(h:x.dF n)(hi:i<n)(d:x.md i=.out)(hb:0<x.dc i):(x.mV i (.iu q9) x.L x.K x.S x.W x.M).dF n/\(x.mV i (.iu q9) x.L x.K x.S x.W x.M).cn n<x.cn n:=by obtain⟨a1,a2,a3,f,g,a,b,c⟩:=nu hi x.md (.iu q9);have j:=Oh hi x.dc (x.dc i- 1);obtain⟨l,k,m,o,p,aP⟩:=h;simp only[d,aN.iQ,aN.jb,aN.iq,aN.jc,aN.iH,aN.ir,aN.jH,aN.wt]at a1 a2 a3 f g a b c;refine⟨⟨?_,?_,?_,?_,λe=>⟨?_,?_,?_,?_⟩,λe=>⟨?_,?_,?_,?_⟩⟩,?_⟩<;>(try simp only[mV]at e)<;>(try simp only[mV,cn])<;>(first|omega|exactλ_=>.inl trivial|exactλ_=>.inr (.inl trivial))
def acq(h:x.dF n)(hi:i<n){aw:Bool}(f:x.md i=.iu aw)(o:x.L=0)(a:x.S=0):(x.go i .own 1 (if aw then 0 else x.K) 0 x.W x.M).dF n/\(x.go i .own 1 (if aw then 0 else x.K) 0 x.W x.M).cn n<x.cn n:=by
 obtain⟨a1,a2,a3,g,j,b,c,d⟩:=nu hi x.md .own;obtain⟨l,r,s,t,k,aP⟩:=h;have m:=qx hi x.md;obtain⟨bM,bE,p,q⟩:=k a;cases aw<;>simp only[f,aN.iQ,aN.jb,aN.iq,aN.jc,aN.iH,aN.ir,aN.jH,aN.wt]at a1 a2 a3 g j b c d m<;>refine⟨⟨?_,?_,?_,?_,λe=>⟨?_,?_,?_,?_⟩,λe=>⟨?_,?_,?_,?_⟩⟩,?_⟩<;>(try simp only[go,if_true,if_false,N2]at e)<;>(try simp only[go,cn,if_true,if_false,N2])<;>(first|omega|exactλ_=>.inl trivial|exactλ_=>.inr (.inl trivial))
def iv(h:x.dF n)(hi:i<n){aw st:Bool}(k:x.md i=.iu aw)(s:x.L=1\/x.S=1)(b:st=J->aw=J/\x.L=1):(x.go i .iv x.L (if aw then 0 else x.K) (if st then 1 else x.S) (x.W+1) x.M).dF n/\(x.go i .iv x.L (if aw then 0 else x.K) (if st then 1 else x.S) (x.W+1) x.M).cn n<x.cn n:=by
 obtain⟨a1,a2,a3,m,o,c,d,f⟩:=nu hi x.md .iv;obtain⟨l,t,u,v,p,aP⟩:=h;have q:=qx hi x.md;have a:x.S=0\/x.S=1:=U
 have g:¬(aw=q9/\st=J):=λ⟨h1,r⟩=>by have:=(b r).1;rw[h1]at this;cases this
 cases aw<;>cases st<;>(try exact absurd ⟨rfl,rfl⟩ g)<;>simp only[k,aN.iQ,aN.jb,aN.iq,aN.jc,aN.iH,aN.ir,aN.jH,aN.wt]at a1 a2 a3 m o c d f q<;>rcases a with a|a<;>(first|have j:=p a|have j:=aP a)<;>refine⟨⟨?_,?_,?_,?_,λe=>⟨?_,?_,?_,?_⟩,λe=>⟨?_,?_,?_,?_⟩⟩,?_⟩<;>(try simp only[go,if_true,if_false,N2,true_imp_iff,false_imp_iff,reduceCtorEq,true_and]at e b ⊢)<;>(try simp only[go,cn,if_true,if_false,N2,true_imp_iff,false_imp_iff,true_and]at b ⊢)<;>(first|omega|exactλ_=>.inl trivial|exactλ_=>.inr (.inl trivial))
def Yo(h:x.dF n)(hi:i<n)(f:x.md i=.iu q9)(m:x.L=1)(a:x.S=0)(o:x.K=0):(x.go i (.iu J) 1 1 0 x.W x.M).dF n/\(x.go i (.iu J) 1 1 0 x.W x.M).cn n<x.cn n:=by
 obtain⟨a1,a2,a3,g,j,b,c,d⟩:=nu hi x.md (.iu J);obtain⟨l,r,s,t,k,aP⟩:=h;obtain⟨bM,bE,p,q⟩:=k a;simp only[f,aN.iQ,aN.jb,aN.iq,aN.jc,aN.iH,aN.ir,aN.jH,aN.wt]at a1 a2 a3 g j b c d;refine⟨⟨?_,?_,?_,?_,λe=>⟨?_,?_,?_,?_⟩,λe=>⟨?_,?_,?_,?_⟩⟩,?_⟩<;>(try simp only[go]at e)<;>(try simp only[go,cn])<;>(first|omega|exactλ_=>.inl trivial|exactλ_=>.inr (.inl trivial))
def Oi(h:x.dF n)(hi:i<n)(d:x.md i=.iv)(k:0<x.M):(x.go i .py x.L x.K x.S x.W (x.M- 1)).dF n/\(x.go i .py x.L x.K x.S x.W (x.M- 1)).cn n<=x.cn n:=by obtain⟨a1,a2,a3,f,g,a,b,c⟩:=nu hi x.md .py;obtain⟨l,m,o,p,q,aP⟩:=h;have j:=qx hi x.md;simp only[d,aN.iQ,aN.jb,aN.iq,aN.jc,aN.iH,aN.ir,aN.jH,aN.wt]at a1 a2 a3 f g a b c j;refine⟨⟨?_,?_,?_,?_,λe=>⟨?_,?_,?_,?_⟩,λe=>⟨?_,?_,?_,?_⟩⟩,?_⟩<;>(try simp only[go]at e)<;>(try simp only[go,cn])<;>(first|omega|exactλ_=>.inl trivial|exactλ_=>.inr (.inl trivial))
def Yp(h:x.dF n)(hi:i<n)(f:x.md i=.py)(a:x.S=0):(x.go i (.iu J) x.L x.K x.S x.W x.M).dF n/\(x.go i (.iu J) x.L x.K x.S x.W x.M).cn n<x.cn n/\x.K=1:=by obtain⟨a1,a2,a3,g,j,b,c,d⟩:=nu hi x.md (.iu J);obtain⟨l,q,r,s,k,aP⟩:=h;have m:=qx hi x.md;obtain⟨bM,bE,o,p⟩:=k a;simp only[f,aN.iQ,aN.jb,aN.iq,aN.jc,aN.iH,aN.ir,aN.jH,aN.wt]at a1 a2 a3 g j b c d m;refine⟨⟨?_,?_,?_,?_,λe=>⟨?_,?_,?_,?_⟩,λe=>⟨?_,?_,?_,?_⟩⟩,?_,?_⟩<;>(try simp only[go]at e)<;>(try simp only[go,cn])<;>(first|omega|exactλ_=>.inl trivial|exactλ_=>.inr (.inl trivial))
def Yq(h:x.dF n)(hi:i<n)(f:x.md i=.py)(a:x.S=1):(x.go i .rB x.L x.K x.S x.W x.M).dF n/\(x.go i .rB x.L x.K x.S x.W x.M).cn n<=x.cn n/\x.L=0/\x.K=0/\0<x.W:=by obtain⟨a1,a2,a3,g,j,b,c,d⟩:=nu hi x.md .rB;obtain⟨l,p,q,r,s,aP⟩:=h;have k:=qx hi x.md;obtain⟨bM,bE,m,o⟩:=aP a;simp only[f,aN.iQ,aN.jb,aN.iq,aN.jc,aN.iH,aN.ir,aN.jH,aN.wt]at a1 a2 a3 g j b c d k;refine⟨⟨?_,?_,?_,?_,λe=>⟨?_,?_,?_,?_⟩,λe=>⟨?_,?_,?_,?_⟩⟩,?_,?_,?_,?_⟩<;>(try simp only[go]at e)<;>(try simp only[go,cn])<;>(first|omega|exactλ_=>.inl trivial|exactλ_=>.inr (.inl trivial))
def Yr(h:x.dF n)(hi:i<n)(f:x.md i=.own)(a:x.S=1):(x.go i .rel 0 x.K x.S x.W x.M).dF n/\(x.go i .rel 0 x.K x.S x.W x.M).cn n<x.cn n/\x.L=1:=by obtain⟨a1,a2,a3,g,j,b,c,d⟩:=nu hi x.md .rel;obtain⟨l,p,q,r,s,aP⟩:=h;have k:=qx hi x.md;obtain⟨bM,bE,m,o⟩:=aP a;simp only[f,aN.iQ,aN.jb,aN.iq,aN.jc,aN.iH,aN.ir,aN.jH,aN.wt]at a1 a2 a3 g j b c d k;refine⟨⟨?_,?_,?_,?_,λe=>⟨?_,?_,?_,?_⟩,λe=>⟨?_,?_,?_,?_⟩⟩,?_,?_⟩<;>(try simp only[go]at e)<;>(try simp only[go,cn])<;>(first|omega|exactλ_=>.inl trivial|exactλ_=>.inr (.inl trivial))
def Ys(h:x.dF n)(hi:i<n)(f:x.md i=.own)(a:x.S=0)(q:x.W=0\/x.K=1):(x.go i .out 0 x.K x.S x.W x.M).dF n/\(x.go i .out 0 x.K x.S x.W x.M).cn n<x.cn n/\x.L=1:=by obtain⟨a1,a2,a3,g,j,b,c,d⟩:=nu hi x.md .out;obtain⟨l,r,s,t,k,aP⟩:=h;have m:=qx hi x.md;obtain⟨bM,bE,o,p⟩:=k a;simp only[f,aN.iQ,aN.jb,aN.iq,aN.jc,aN.iH,aN.ir,aN.jH,aN.wt]at a1 a2 a3 g j b c d m;refine⟨⟨?_,?_,?_,?_,λe=>⟨?_,?_,?_,?_⟩,λe=>⟨?_,?_,?_,?_⟩⟩,?_,?_⟩<;>(try simp only[go]at e)<;>(try simp only[go,cn])<;>(first|omega|exactλ_=>.inl trivial|exactλ_=>.inr (.inl trivial))
def Yt(h:x.dF n)(hi:i<n)(f:x.md i=.own)(a:x.S=0):(x.go i .jT 0 x.K x.S x.W x.M).dF n/\(x.go i .jT 0 x.K x.S x.W x.M).cn n<x.cn n/\x.L=1:=by obtain⟨a1,a2,a3,g,j,b,c,d⟩:=nu hi x.md .jT;obtain⟨l,q,r,s,k,aP⟩:=h;have m:=qx hi x.md;obtain⟨bM,bE,o,p⟩:=k a;simp only[f,aN.iQ,aN.jb,aN.iq,aN.jc,aN.iH,aN.ir,aN.jH,aN.wt]at a1 a2 a3 g j b c d m;refine⟨⟨?_,?_,?_,?_,λe=>⟨?_,?_,?_,?_⟩,λe=>⟨?_,?_,?_,?_⟩⟩,?_,?_⟩<;>(try simp only[go]at e)<;>(try simp only[go,cn])<;>(first|omega|exactλ_=>.inl trivial|exactλ_=>.inr (.inl trivial))
def quit(h:x.dF n)(hi:i<n)(d:x.md i=.jT)(j:x.W=0\/x.L=1\/x.K=1\/x.S=1):(x.go i .out x.L x.K x.S x.W x.M).dF n/\(x.go i .out x.L x.K x.S x.W x.M).cn n<x.cn n:=by obtain⟨a1,a2,a3,f,g,a,b,c⟩:=nu hi x.md .out;obtain⟨l,k,m,o,p,aP⟩:=h;simp only[d,aN.iQ,aN.jb,aN.iq,aN.jc,aN.iH,aN.ir,aN.jH,aN.wt]at a1 a2 a3 f g a b c;refine⟨⟨?_,?_,?_,?_,λe=>⟨?_,?_,?_,?_⟩,λe=>⟨?_,?_,?_,?_⟩⟩,?_⟩<;>(try simp only[go]at e)<;>(try simp only[go,cn])<;>(first|omega|exactλ_=>.inl trivial|exactλ_=>.inr (.inl trivial))
def wake(h:x.dF n)(hi:i<n)(f:x.md i=.jT)(m:x.L=0)(o:x.K=0)(a:x.S=0)(r:0<x.W):(x.go i .rel 0 1 0 (x.W- 1) x.M).dF n/\(x.go i .rel 0 1 0 (x.W- 1) x.M).cn n<x.cn n:=by obtain⟨a1,a2,a3,g,j,b,c,d⟩:=nu hi x.md .rel;obtain⟨l,s,t,u,k,aP⟩:=h;obtain⟨bM,bE,p,q⟩:=k a;simp only[f,aN.iQ,aN.jb,aN.iq,aN.jc,aN.iH,aN.ir,aN.jH,aN.wt]at a1 a2 a3 g j b c d;refine⟨⟨?_,?_,?_,?_,λe=>⟨?_,?_,?_,?_⟩,λe=>⟨?_,?_,?_,?_⟩⟩,?_⟩<;>(try simp only[go]at e)<;>(try simp only[go,cn])<;>(first|omega|exactλ_=>.inl trivial|exactλ_=>.inr (.inl trivial))
def release(h:x.dF n)(hi:i<n)(d:x.md i=.rel):(x.go i .out x.L x.K x.S x.W (x.M+1)).dF n/\(x.go i .out x.L x.K x.S x.W (x.M+1)).cn n<x.cn n:=by obtain⟨a1,a2,a3,f,g,a,b,c⟩:=nu hi x.md .out;obtain⟨l,j,k,m,o,aP⟩:=h;simp only[d,aN.iQ,aN.jb,aN.iq,aN.jc,aN.iH,aN.ir,aN.jH,aN.wt]at a1 a2 a3 f g a b c;refine⟨⟨?_,?_,?_,?_,λe=>⟨?_,?_,?_,?_⟩,λe=>⟨?_,?_,?_,?_⟩⟩,?_⟩<;>(try simp only[go]at e)<;>(try simp only[go,cn])<;>(first|omega|exactλ_=>.inl trivial|exactλ_=>.inr (.inl trivial))
def awake(h:x.dF n)(hi:i<n)(a:x.md i=.iu J):x.K=1/\x.S=0:=by
 obtain⟨l,d,f,g,b,aP⟩:=h;have c:=qx hi x.md;simp only[a,aN.jc]at c;rcases(U:x.S=0\/x.S=1)with e|e
 .have:=b e;omega
 .have:=aP e;omega
def owner(h:x.dF n){j:Nat}(hi:i<n)(b:j<n)(d:x.md i=.own)(e:x.md j=.own):i=j:=by refine Classical.byContradiction λc=> ?_;have h1:=sD hi aN.iQ x.md .out;have a:=tT b aN.iQ (upd x.md i .out);rw[upd_ne _ _ (Ne.symm c)]at a;simp only[d,e,aN.iQ]at h1 a;have:=h.l;have:=h.fv;omega
def live(h:x.dF n)(hi:i<n)(c:x.md i=.iv)(g:x.M=0):∃j,j<n/\x.md j≠.out/\x.md j≠.iv:=by
 have d:=qx hi x.md;simp only[c,aN.iH]at d;obtain⟨l,m,o,p,f,aP⟩:=h;have key:0<cnt n aN.iQ x.md\/0<cnt n aN.jb x.md\/0<cnt n aN.iq x.md\/0<cnt n aN.jc x.md\/0<cnt n aN.jH x.md\/0<cnt n aN.ir x.md:=by
  rcases(U:x.S=0\/x.S=1)with e|e
  .have:=f e;omega
  .have:=aP e;omega
 rcases key with k|k|k|k|k|k<;>obtain⟨j,b,a⟩:=Ym k<;>refine⟨j,b,?_,?_⟩<;>intro e<;>rw[e]at a<;>simp[aN.iQ,aN.jb,aN.iq,aN.jc,aN.jH,aN.ir]at a
end
end cK
end
section
open Go.ConcN (sumTo sumTo_upd sumTo_congr upd upd_same upd_ne)
section
variable{P:tb}{L:ja P}
def ja.pw.stay{j:Nat}{x:oh L.α}{g:B6}{γ γ':L.kj}{h:ae}{t c:N1}(i:L.pw j x g γ h t)(a:L.R j γ γ'/\(L.gone γ' j↔L.gone γ j))(hd:T5 c j=T5 t j)(k:L.waits γ j->L.waits γ' j):L.pw j x g γ' h c:=by
 rcases i with⟨a1,s,d,l,a2,a3,b,m⟩|⟨a1,a2,q,a3,b⟩
 .exact .inl ⟨λe=>a1 (a.2.1 e),s,d,l,a2,L.trans a3 a.1,b,m.imp id λ⟨bM,bE,f⟩=>⟨bM,bE,k f⟩⟩
 .exact .inr ⟨a.2.2 a1,a2,q,a3,by rw[hd];exact b⟩
def ja.pw.other{j:Nat}{x:oh L.α}{g b g':B6}{w':tg}{γ γ':L.kj}{h:ae}{t i:N1}(u:L.pw j x g γ h t)(c:L.R j γ γ'/\(L.gone γ' j↔L.gone γ j))(hd:T5 i j=T5 t j)
  (v:L.waits γ j->¬L.waits γ' j->mayWake P b=J) (m:g'.status=.running\/g'.status=.finished):L.pw j x (avZ P b g' w' g) γ' h i:=by
 have n:(g'.status != .blocked&&g'.status != .waiting)=J:=by rcases m with e|e<;>rw[e]<;>rfl
 rcases u with⟨a1,s,o,d,a2,a3,a,w⟩|⟨a1,a2,q,a3,a⟩
 .refine .inl ⟨λe=>a1 (c.2.1 e),s,o,d,a2,L.trans a3 c.1,a,?_⟩;have k:=a.running;rcases w with rfl|⟨bM,rfl,p⟩
  .exact .inl (woken_run k)
  .by_cases f:mayWake P b=J
   .left;unfold avZ;rw[if_pos (by rw[f,Bool.true_and];exact n)];exact Go.ConcR.again_blocked k bM _
   .have e:avZ P b g' w' {d with status:=.blocked}= {d with status:=.blocked}:=by unfold avZ;rw[if_neg];intro l;simp only[Bool.and_eq_true]at l;exact f l.1.1
    exact .inr ⟨bM,e,Classical.byContradiction λr=>f (v p r)⟩
 .exact .inr ⟨c.2.2 a1,a2,q,a3,by rw[woken_quitsD a,hd];exact a⟩
def ja.pw.status{j:Nat}{x:oh L.α}{g:B6}{γ:L.kj}{h:ae}{t:N1}(b:L.pw j x g γ h t):g.status=.running\/g.status=.blocked\/g.status=.finished:=by
 rcases b with⟨_,s,c,d,_,_,a,rfl|⟨_,rfl,_⟩⟩|⟨_,_,q,_,a⟩
 .exact .inl a.running
 .exact .inr (.inl rfl)
 .exact a.status.imp id .inr
def Yu{i:Nat}{g:B6}{es:Array R1}{op:MemOp}(h:op∈gZ i g es):op.g=i:=by rw[(atz:gZ i g es=T1 i g.frame.fn g.frame.place es),ofEvents_eq]at h;obtain⟨e,_,rfl⟩:=Array.mem_map.1 h;rfl
def BO{t:N1}{i j:Nat}(a:j≠i)(g:B6)(es:Array R1):T5 (t++gZ i g es) j=T5 t j:=av1 t (g':=i) (λe=>a e.symm) _ (λ_ b=>Yu b)
def ja.Inv.next{a:Array B6}{w':tg}{f:Option (Nat×Nat)}{γ γ':L.kj}{hs:Nat->ae}{ms:List (oh L.α)}{h e:kT L.α}{ms':List (oh L.α)}{t:N1}{i:Nat}{g g':B6}{es:Array R1}{h':ae}{x':oh L.α}
  (l:a.size=ms.length+1) (m:∀i g x,a[i]? =C g->(avc h::ms)[i]? =C x->L.pw i x g γ (hs i) t) (hi:a[i]? =C g)
  (n:L.c8 γ' a.size (cA hs i h') w' (t++gZ i g es)) (o:L.qp i γ γ') (v:L.qt g γ γ') (p:g'.status=.running\/g'.status=.finished)
  (k:avc e::ms'=(avc h::ms).set i x') (q:L.pw i x' g' γ' h' (t++gZ i g es)):
  L.Inv (e,ms',sumTo ((a.map (avZ P g g' w')).setIfInBounds i g').size (oq ((a.map (avZ P g g' w')).setIfInBounds i g'))) (awO ((a.map (avZ P g g' w')).setIfInBounds i g') w' f) (t++gZ i g es):=by
 have w:ms'.length=ms.length:=by have:=congrArg List.length k;simpa using this
 have r:i<a.size:=(auv.1 hi).1;refine⟨_,w',f,γ',cA hs i h',ms',e,rfl,by simp[l,w],by simpa using n,λj z s d c=> ?_,rfl⟩;rw[k]at c;by_cases b:j=i
 .subst b;rw[axg (by simpa using r)]at d;rw[List.getElem?_set_self atB]at c;cases d;cases c;rw[kF];exact q
 .rw[avD (Ne.symm b),Array.getElem?_map]at d;rw[List.getElem?_set_ne (Ne.symm b)]at c;obtain⟨y,u,rfl⟩:=Option.map_eq_some_iff.1 d;rw[gn _ _ b];exact(m j y s u c).other (o j b) (BO b _ _) (v j) p
def Yv{ms:List (oh L.α)}{a:kT L.α}:∀{i:Nat} {x x':oh L.α},(avc a::ms)[i]? =C x->ry x' x->(∀q,i=0->x'≠.inr q)->∃d ms',avc d::ms'=(avc a::ms).set i x'/\∀c bJ,L.lt (d,ms',bJ) (a,ms,c)
 | 0,x,x',h,b,e=>by
  simp at h;subst h;cases b with
  |mR hs=>exact⟨_,ms,Y,λc bJ=>azx _ _ hs⟩
  |xk=>exact absurd rfl (e _ rfl)
 |i+1,x,x',h,b,_=>⟨a,ms.set i x',Y,λc bJ=>azy _ (azx _ _ (ps.set (by simpa using h) b))⟩
def ja.Yw{ou:L.ou}{m:Machine}{t:N1}(I:L.Inv ou m t):(∃o w ops,stepT P m=(.ended o w,ops)/\Good P L.Post m o w (t++ops))\/(∃dG ops H,stepT P m=(.next dG,ops)/\L.lt H ou/\L.Inv H dG (t++ops)):=by
 obtain⟨h,w,sl,γ,hs,ms,ad,rfl,a6,cm,K,rfl⟩:=I;have az:∀i g,h[i]? =C g->∃x,(avc ad::ms)[i]? =C x:=λi g hi=>by have u:=(auv.1 hi).1;exact⟨_,List.getElem?_eq_getElem atB⟩
 have ds:∀g∈h,awake g:=by intro g z tm;obtain⟨i,hi⟩:=Array.mem_iff_getElem?.1 z;obtain⟨x,bk⟩:=az i g hi;rcases(K i g x hi bk).status with e|e|e<;>rw[e]<;>simp
 obtain⟨i0,ez,l2,l3⟩:=L.live cm;have dA:∃(i:Nat) (g:B6),h[i]? =C g/\g.status=.running:=by
  have e:=Array.getElem?_eq_getElem ez;obtain⟨x,bk⟩:=az i0 _ e;rcases K i0 _ x e bk with⟨_,s,Q,g0,_,_,G,a5|⟨_,_,M⟩⟩|⟨a1,_⟩
  .exact⟨i0,_,e,by rw[a5];exact G.running⟩
  .exact absurd M l3
  .exact absurd a1 l2
 obtain⟨i,g,d,S,hi,z,a7⟩:=crowd_pick (P:=P) (w:=w) (sl:=sl) ds dA;have D:=L.at_ d cm;have u:i<h.size:=(auv.1 hi).1;obtain⟨x,bd⟩:=az i g hi;have bl:L.qp i γ γ:=λj _=>⟨L.refl j γ,Iff.rfl⟩;have bm:L.qt g γ γ:=λj a b=>absurd a b;have af:∀{γ':L.kj} {g':B6} {w':tg} {es:Array R1} {h':ae} {x':oh L.α},vx P (i==0) g (w.at d)=.go g' w' es->L.c8 γ' h.size (cA hs i h') w' (t++gZ i g es)->L.qp i γ γ'->L.qt g γ γ'->(g'.status=.running\/g'.status=.finished)->ry x' x->(∀q,i=0->x'≠.inr q)->L.pw i x' g' γ' h' (t++gZ i g es)->
   ∃dG ops H,stepT P (awO h w sl)=(.next dG,ops)/\L.lt H (ad,ms,sumTo h.size (oq h))/\L.Inv H dG (t++ops):=by
  intro γ' g' w' es h' x' ca hG ho hk hr eb hn hT;obtain⟨eG,e7,hm,ed⟩:=Yv (L:=L) bd eb hn;exact⟨_,_,_,a7.trans (aA7 (sl:=S) hi ca),ed _ _,ja.Inv.next a6 K hi hG ho hk hr hm hT⟩
 have de:L.waits γ i->∀g0,g=g0->g0.offers=o0->¬L.gone γ i->(∃s Q,x=.inl Q/\L.R i s γ/\L.xn i Q s (hs i) g0)->vx P (i==0) g (w.at d)=.go {g with status:=.blocked} (w.at d) #[]->∃dG ops H,stepT P (awO h w sl)=(.next dG,ops)/\L.lt H (ad,ms,sumTo h.size (oq h))/\L.Inv H dG (t++ops):=by
  intro ee g0 e0 W ef ⟨s,Q,ex,hr,eh⟩ ca;subst e0;have ek:avZ P g {g with status:=.blocked} (w.at d)=id:=by funext o;simp[avZ]
  have E:=aA7 (sl:=S) hi ca;rw[ek,Array.map_id]at E;have e0:T1 i g.frame.fn g.frame.place #[]=#[]:=by rw[ofEvents_eq];simp
  rw[e0]at E;refine⟨_,_,(ad,ms,sumTo h.size (oq (h.setIfInBounds i {g with status:=.blocked}))),a7.trans E,azy _ (azy _ ?_),?_⟩
  .have e:oq (h.setIfInBounds i {g with status:=.blocked})=λj=>upd (oq h) i 0 j:=by
    funext j;by_cases k:j=i
    .subst k;simp[oq,axg u,upd]
    .simp[oq,avD (Ne.symm k),upd,k]
   have:=sumTo_upd (oq h) 0 id u;have hc:oq h i=1:=by simp[oq,hi,z]
   rw[e];simp only[id,hc]at this;show sumTo h.size (λj=>upd (oq h) i 0 j)<sumTo h.size (λa=>oq h a);omega
  .refine⟨_,w.at d,S,γ,hs,ms,ad,rfl,by simp[a6],by simpa using D,λj l A k n=> ?_,Y⟩;simp only[Array.append_empty];by_cases cp:j=i
   .subst cp;rw[axg u]at k;cases k;obtain rfl:x=A:=by rw[bd]at n;exact T6 n
    exact .inl ⟨ef,s,Q,g,ex,hr,eh,.inr ⟨W,rfl,ee⟩⟩
   .rw[avD (Ne.symm cp)]at k;exact K j l A k n
 rcases K i g x hi bd with⟨a1,s,Q,g0,rfl,a3,G,a5⟩|⟨a1,a2,q,rfl,G⟩
 .have eg:g=g0:=by
   rcases a5 with e|⟨_,rfl,_⟩
   .exact e
   .cases z
  subst eg;have cM:=L.cZ D u a1;cases Q with
  |leaf=>
   cases i with
   |succ i=>exact G.elim
   |zero=>
    obtain⟨_,p⟩:=G;obtain⟨c1,v,es,c2,c3,c4,c5⟩:=p γ _ hs (w.at d) t a3 D rfl;have E:=aA8 (P:=P) (sl:=S) (i:=0) hi (show vx P (0==0) g (w.at d)=_ from c2);have a8:∀j l,0<j->h[j]? =C l->∃q,QuitsD P q (T5 t j) l:=λj l bs k=>by
     obtain⟨A,n⟩:=az j l k;rcases K j l A k n with⟨bM,_⟩|⟨_,_,q,_,B⟩
     .exact absurd (c1 j bs (auv.1 k).1) bM
     .exact⟨q,B⟩
    refine .inl ⟨_,_,_,a7.trans E,v,rfl,c3,c4,c5,⟨λy r=> ?_,rfl⟩,λj y r k=> ?_⟩
    .obtain⟨j,k⟩:=avd.1 r;rw[axH]at k;obtain⟨q,p⟩:=a8 (1+j) y U (by simpa[awO]using k);exact⟨q,p.leaves⟩
    .obtain⟨q,p⟩:=a8 j y U r;refine⟨q,?_⟩;have e:(t++gZ 0 g es).deaf j (t++gZ 0 g es).size=T5 t j:=BO U _ _;rw[e];exact p.hears _
  |mk f=>
   cases i with
   |zero=>
    rcases G with p|hl|F
    .obtain⟨_,p⟩:=p;obtain⟨c1,v,es,c2,c3,c4,c5⟩:=p γ _ hs (w.at d) t a3 D rfl;have E:=aA8 (P:=P) (sl:=S) (i:=0) hi (show vx P (0==0) g (w.at d)=_ from c2);have a8:∀j l,0<j->h[j]? =C l->∃q,QuitsD P q (T5 t j) l:=λj l bs k=>by
      obtain⟨A,n⟩:=az j l k;rcases K j l A k n with⟨bM,_⟩|⟨_,_,q,_,B⟩
      .exact absurd (c1 j bs (auv.1 k).1) bM
      .exact⟨q,B⟩
     refine .inl ⟨_,_,_,a7.trans E,v,rfl,c3,c4,c5,⟨λy r=> ?_,rfl⟩,λj y r k=> ?_⟩
     .obtain⟨j,k⟩:=avd.1 r;rw[axH]at k;obtain⟨q,p⟩:=a8 (1+j) y U (by simpa[awO]using k);exact⟨q,p.leaves⟩
     .obtain⟨q,p⟩:=a8 j y U r;refine⟨q,?_⟩;have e:(t++gZ 0 g es).deaf j (t++gZ 0 g es).size=T5 t j:=BO U _ _;rw[e];exact p.hears _
    .obtain⟨g',w',es,h',e1,e2,e3,e4,c,e5⟩:=hl.2 _ cM;exact .inr (af e1 (L.loc _ _ D u a1 e3 e2 e4) bl bm (.inl (ja.xn.running L (i:=0) e5)) (.mR ⟨f,c,rfl,rfl⟩) (λq _ e=>by cases e) (.inl ⟨a1,s,_,g',rfl,a3,e5,.inl rfl⟩))
    .obtain⟨_,W,F⟩:=F;rcases F γ _ hs (w.at d) t a3 D rfl with⟨bM,bE⟩|⟨γ',g',w',es,h',bM,bE,M,B,X,c,N⟩|⟨γ',g',child,w',es,h',hc,bM,bE,M,B,X,N,rC,c,b8⟩
     .exact .inr (de bM g rfl W a1 ⟨s,.mk f,rfl,a3,.inr (.inr ⟨z,W,F⟩)⟩ bE)
     .exact .inr (af bM bE M B (.inl X) (.mR ⟨f,c,rfl,rfl⟩) (λq _ e=>by cases e) (.inl ⟨(L.main bE).2,γ',_,g',rfl,L.refl _ _,N,.inl rfl⟩))
     ·
      have E:=runT_crowd_spawn (sl:=S) hi (show vx P (0==0) g (w.at d)=_ from bM);obtain⟨bh,c6⟩:=N.tree;have eL:h.size≠0:=U
      have ep:∀j,j≠0->j≠h.size->T5 ((t++gZ 0 g es).push {g:=0,fn:=g.frame.fn,pos:=g.frame.place,act:=.go h.size} |>.push {g:=h.size,fn:=child.frame.fn,pos:=g.frame.place,act:=.start}) j=T5 t j:=λj h0 hn=>by
       have e:((t++gZ 0 g es).push {g:=0,fn:=g.frame.fn,pos:=g.frame.place,act:=.go h.size} |>.push {g:=h.size,fn:=child.frame.fn,pos:=g.frame.place,act:=.start})=((t++gZ 0 g es)++#[{g:=0,fn:=g.frame.fn,pos:=g.frame.place,act:=.go h.size}])++#[{g:=h.size,fn:=child.frame.fn,pos:=g.frame.place,act:=.start}]:=by apply ayw;simp
       rw[e,av1 _ (g':=h.size) (λe=>hn e.symm) _ Y,av1 _ (g':=0) (λe=>h0 e.symm) _ Y,BO h0]
      refine .inr ⟨_,_,(f c,ms++[avc bh],_),a7.trans E,azx _ _ ⟨f,c,by simpa using bd,rfl⟩,_,w',S,γ',cA (cA hs 0 h') h.size hc,ms++[avc bh],f c,rfl,by simp[a6],?_,λj l A k n=> ?_,rfl⟩
      .have:((h.setIfInBounds 0 g').push child).size=h.size+1:=Y
       rw[this];have e3:(t++((T1 0 g.frame.fn g.frame.place es).push {g:=0,fn:=g.frame.fn,pos:=g.frame.place,act:=.go h.size} |>.push {g:=h.size,fn:=child.frame.fn,pos:=g.frame.place,act:=.start}))=((t++gZ 0 g es).push {g:=0,fn:=g.frame.fn,pos:=g.frame.place,act:=.go h.size} |>.push {g:=h.size,fn:=child.frame.fn,pos:=g.frame.place,act:=.start}):=by apply ayw;simp
       rw[e3];exact bE
      .have e3:(t++((T1 0 g.frame.fn g.frame.place es).push {g:=0,fn:=g.frame.fn,pos:=g.frame.place,act:=.go h.size} |>.push {g:=h.size,fn:=child.frame.fn,pos:=g.frame.place,act:=.start}))=((t++gZ 0 g es).push {g:=0,fn:=g.frame.fn,pos:=g.frame.place,act:=.go h.size} |>.push {g:=h.size,fn:=child.frame.fn,pos:=g.frame.place,act:=.start}):=by apply ayw;simp
       rw[e3];by_cases ba:j=h.size
       .subst ba;have:l=child:=by
         have:((h.setIfInBounds 0 g').push child)[h.size]? =C child:=by rw[awL];simp
         rw[this]at k;exact(T6 k).symm
        subst this;have er:A=avc bh:=by rw[a6,avl,List.getElem?_append_right (Nat.le_refl _)]at n;simpa using n.symm
        subst er;rw[kF];refine .inl ⟨X,γ',bh,l,rfl,L.refl _ _,?_,.inl rfl⟩;rw[a6]at c6 ⊢;exact c6
       .have ag:(h.setIfInBounds 0 g')[j]? =C l:=by rw[awL]at k;simpa[ba]using k
        have eT:j<h.size:=by simpa using(auv.1 ag).1
        rw[gn _ _ ba];cases j with
        |zero=>rw[axg u]at ag;cases ag;simp at n;subst n;rw[kF];exact .inl ⟨(L.main bE).2,γ',_,g',rfl,L.refl _ _,b8,.inl rfl⟩
        |succ j=>
         rw[avD U]at ag;rw[gn _ _ U];have e6:(avc ad::ms)[j+1]? =C A\/True:=.inr trivial;obtain⟨y,r⟩:=az (j+1) l ag;have et:y=A:=by rw[avl]at n r;rw[List.getElem?_append_left U,r]at n;exact T6 n
         subst et;exact(K _ _ _ ag r).stay (M (j+1) U ba) (ep _ U ba) (B _)
   |succ i=>
    rcases G with p|hl|F
    .exact p.elim
    .obtain⟨g',w',es,h',e1,e2,e3,e4,c,e5⟩:=hl.2 _ cM;exact .inr (af e1 (L.loc _ _ D u a1 e3 e2 e4) bl bm (.inl (ja.xn.running L (i:=i+1) e5)) (.mR ⟨f,c,rfl,rfl⟩) (λq e=>by omega) (.inl ⟨a1,s,_,g',rfl,a3,e5,.inl rfl⟩))
    .obtain⟨_,W,F⟩:=F;rcases F γ _ hs (w.at d) t a3 D u a1 rfl with⟨bM,bE⟩|⟨γ',g',w',es,h',bM,bE,M,B,⟨X,q,N⟩|⟨X,N,c,rC⟩⟩
     .exact .inr (de bM g rfl W a1 ⟨s,.mk f,rfl,a3,.inr (.inr ⟨z,W,F⟩)⟩ bE)
     .exact .inr (af bM bE M B N.status .xk (λq e=>by omega) (.inr ⟨X,U,q,rfl,N⟩))
     .exact .inr (af bM bE M B (.inl N) (.mR ⟨f,c,rfl,rfl⟩) (λq e=>by omega) (.inl ⟨X,γ',_,g',rfl,L.refl _ _,rC,.inl rfl⟩))
 ·
  cases q with
  |zero=>rw[G.1]at z;cases z
  |succ q=>
   rcases G with⟨hf,_⟩|⟨_,g',es,hm,ew,dd⟩
   .rw[hf]at z;cases z
   have ey:(i==0)=q9:=atB
   refine .inr (af (γ':=γ) (h':=hs i) (by rw[ey];exact ew _) (by rw[pt];exact L.mute _ _ D a2 u a1 hm) bl bm dd.status (.aG (Nat.lt_succ_self q)) (λq e=>by omega) (.inr ⟨a1,a2,q,rfl,?_⟩));rw[Deaf_own];exact dd
def ja.runs{ou:L.ou}{m:Machine}{t:N1}(I:L.Inv ou m t):∃N a o w b,runNT P (N+1) m t=(.ended o w,b)/\runN P N m=.next a/\step P a=.ended o w/\Good P L.Post a o w b:=run_of_inv L.Yk L.Inv (Good P L.Post) (λ_ _ _=>L.Yw) ou m t I
def ja.ends{γ:L.kj}{h:ae}{g:B6}{w:tg}(r:dv P J L.jq L.GD γ h g)(c:L.c8 γ 1 (λj=>if j=0 then h elseλ_=>o0) w #[]):∃N b o w' d,runNT P (N+1) (solo g w) #[]=(.ended o w',d)/\runN P N (solo g w)=.next b/\step P b=.ended o w'/\Good P L.Post b o w' d:=by
 obtain⟨a,f⟩:=r.tree;refine L.runs (ou:=(a,[],_)) (m:=awO #[g] w o0) ⟨#[g],w,o0,γ,_,[],a,rfl,rfl,c,λi k x hi e=> ?_,rfl⟩;have:i=0:=by have:=(auv.1 hi).1;simp at this;exact this
 subst this;simp at hi e;subst hi e;exact .inl ⟨(L.main c).2,γ,a,g,rfl,L.refl _ _,(by rw[if_pos rfl];exact f),.inl rfl⟩
end
end
section
variable{P:tb}{main:Bool}{b:aS}{a:Act}{k todo:List Item}{cs:List vH}{c:vH}{w w':tg}{es:Array R1}{fn:Func}{v:o5}
def Yx(f:b.kind=.normal)(hd:a.defers=[])(d:P.funcs[b.fn]? =C fn)(e:(results fn a.tmps).runT P w #[]=(.ok v w',es)):vx P main (G {b.at a todo with mode:=.returning} (c::cs)) w=.go (G (c.finish v) cs) w' (seen P b.fn es):=by
 simp[-auP,G,vx,unwind,aS.at,hd,d,e,av3,f,atZ]
def GH{r:Nat}{args:Array o5}{ds:List tc}(hd:a.defers= {target:=.collected r,args}::ds)(c:(ayx r).runT P w #[]=(.ok [] w',es)):vx P main (G {b.at a todo with mode:=.returning} cs) w=.go (G {b.at {a with defers:=ds} todo with mode:=.returning} cs) w' (seen P b.fn es):=by
 simp[-auP,G,vx,unwind,aS.at,hd,c,atZ]
def Yy{l:Nat}(c:b.ro=C l)(f:b.kind≠.early)(d:(awo l).runT P w #[]=(.ok () w',es)):vx P main (G (b.at a (.beginRound::k)) cs) w=.go (G (b.at a k) cs) w' (seen P b.fn es):=by
 have e:(b.kind==CallKind.early)=q9:=by simpa using f
 have hb:((do (Option.elim (C l) (stuck "beginRound: no round") awo);pure Next.skip):Sem Next).runT P w #[]=(.ok .skip w',es):=by show((awo l).bind _).runT P w #[]=_;rw[Sem.runT_bind',d];rfl
 simp[-auP,G,vx,atK,stepG.apply,aS.at,c,e,atZ,Frame.finish];have:Sem.runT P (do awo l;pure Next.skip) w #[]=(.ok .skip w',es):=hb;simp only[bind_pure_comp]at this;rw[this];simp
def Yz{l:Nat}{d:Option rj}(e:b.ro=C l)(g:b.kind=.normal)(h:(k=[]/\d=o0)\/(∃k',k=.code .ret::k'/\d=C .ret)\/(∃i k',k=.code (.exit i)::k'/\exitTo i k'=o0/\d=C (.exit i)))
  (f:(ave l d).runT P w #[]=(.ok v w',es)):
  vx P main (G (b.at a k) (c::cs)) w=.go (G (c.finish v) cs) w' (seen P b.fn es):=by
 rcases h with⟨rfl,rfl⟩|⟨k',rfl,rfl⟩|⟨i,k',rfl,j,rfl⟩
 .simp[-auP,G,vx,atK,aS.at,e,f,av3,g,atZ]
 .simp[-auP,G,vx,atK,aS.at,e,f,av3,g,atZ]
 .simp[-auP,G,vx,atK,aS.at,e,f,av3,g,atZ,j]
def GI{l:Nat}{c:Option rj}(d:(Instr.endLoop l).runT P w #[]=(.ok c w',es)):vx P main (G (b.at a (.endRangeFunc l::k)) cs) w=.go (G (b.at a ((c.map Item.code).toList++k)) cs) w' (seen P b.fn es):=by
 simp[-auP,G,vx,atK,aS.at,d,atZ]
end
section
variable{P:tb}{main:Bool}{ai:Type}{S:Sys ai}
def jU(P:tb):List tc->ae->(ae->Prop)->Prop
 | [],h,K=>K h
 | {target:=.collected r,..}::a,h,K=>aH P (ayx r) h λb h'=>b=[]/\jU P a h' K
 |_,_,_=>False
def tU{α:Type}{Q:ai->ae->B6->Prop}{s:ai}{h:ae}{g:B6}{m:Sem α}{K:α->ae->Prop}{g':α->B6}{fn:vb}(b:g.status=.running)
  (hs:∀w v w' es,m.runT P w #[]=(.ok v w',es)->K v h->True) (l:aH P m h K)
  (st:∀w v w' es h',m.runT P w #[]=(.ok v w',es)->K v h'->vx P main g w=.go (g' v) w' (seen P fn es)/\dv P main S Q s h' (g' v)):dv P main S Q s h g:=by
 refine .step ⟨b,λw c=> ?_⟩;obtain⟨v,w',h',es,a,d,f,i,j⟩:=BG P m h K w #[] c l;rw[Array.empty_append]at a;obtain⟨x,y⟩:=st w v w' es h' a d;exact⟨g' v,w',seen P fn es,h',x,f,i,λe k=>j e (mem_seen k),y⟩
def Oj{b:aS}(g:b.kind=.normal){fn:Func}(a:P.funcs[b.fn]? =C fn){Q:ai->ae->B6->Prop}{s:ai}{c:vH}{cs:List vH}{todo:List Item}{tmps:Array o5}{Post:ae->o5->Prop}
  (c1:∀h' v,Post h' v->dv P main S Q s h' (G (c.finish v) cs)):∀(ds:List tc) (h:ae),jU P ds h (λh=>aH P (results fn tmps) h λv h'=>Post h' v)->dv P main S Q s h (G {b.at ⟨tmps,ds⟩ todo with mode:=.returning} (c::cs)):=by
 intro ds
 induction ds with
 |nil=>intro h u;exact tU (g':=λv=>G (c.finish v) cs) (fn:=b.fn) rfl (λ_ _ _ _ _ _=>trivial) u λw v w' es h' e q=>⟨Yx g rfl a e,c1 h' v q⟩
 |cons d ds f=>
  intro h u;obtain⟨t,args⟩:=d;cases t with
  |collected r=>exact tU (g':=λ_=>G {b.at ⟨tmps,ds⟩ todo with mode:=.returning} (c::cs)) (fn:=b.fn) rfl (λ_ _ _ _ _ _=>trivial) u λw v w' es h' e q=>by obtain⟨rfl,q⟩:=q;exact⟨GH rfl e,f h' q⟩
  |_=>exact u.elim
def xq(P:tb)(fn:Func)(Post:ai->ae->o5->Prop)(a:Act)(s:ai)(h:ae):Prop:=jU P a.defers h λh=>aH P (results fn a.tmps) h λv h'=>Post s h' v
def YA{f:vb}{fn:Func}{c:rj}{n:Nat}{args:Array o5}{s:ai}{h:ae}{Post:ai->ae->o5->Prop}(d:P.funcs[f]? =C fn)(hb:fn.body=C c)(j:fn.ntmps=n)
  (u:jo P main S ⟨f,.normal,o0⟩ c (λe=>match e with|.ext _=>λ_ _ _=>False|_=>xq P fn Post) ⟨args++avf (n- args.size) undef,[]⟩ s h):
  bo P main S f args s h Post:=by
 intro Q aK cs hc;have e:Frame.enter P f args .normal=(⟨f,.normal,o0⟩:aS).at ⟨args++avf (n- args.size) undef,[]⟩ [.code c]:=by simp[Frame.enter,aS.at,d,hb,j]
 rw[e];refine xg Y u Q [] (aK::cs) λe a s h q=> ?_;have g:∀todo,xq P fn Post a s h->dv P main S Q s h (G {(⟨f,.normal,o0⟩:aS).at a todo with mode:=.returning} (aK::cs)):=λtodo q=>Oj (b:=⟨f,.normal,o0⟩) rfl d (Post:=Post s) (λh' v=>hc s h' v) a.defers h q
 cases e with
 |cx=>exact .iG rfl (λw=>BI rfl) (g [] q)
 |ext i=>exact q.elim
 |ret=>exactλk=>.iG rfl (λw=>BJ rfl) (g _ q)
def xr:eM->Option rj
 | .cx=>o0
 | .ext i=>C (.exit i)
 | .ret=>C .ret
def YB{l:Nat}{f:vb}{tmps:Array o5}{d b:rj}{s:ai}{h:ae}{Post:ai->ae->o5->Prop}
  (u:jo P main S ⟨f,.normal,C l⟩ d (λe=>match e with
   | .cx=>λa s h=>aH P (awo l) h λ_ h'=>jo P main S ⟨f,.normal,C l⟩ b (λe a s h=>aH P (ave l (xr e)) h λv h'=>Post s h' v) a s h'
   |_=>λ_ _ _=>False) ⟨tmps,[]⟩ s h):ki P main S l f tmps d b s h Post:=by
 intro Q aK cs hc;have e:Frame.round l f tmps d b .normal=(⟨f,.normal,C l⟩:aS).at ⟨tmps,[]⟩ [.code d,.beginRound,.code b]:=rfl;rw[e];refine xg Y u Q _ (aK::cs) λe a s h q=> ?_;cases e with
 |cx=>
  refine tU (g':=λ_=>G ((⟨f,.normal,C l⟩:aS).at a [.code b]) (aK::cs)) (fn:=f) rfl (λ_ _ _ _ _ _=>trivial) q λw v w' es h' g q=>⟨Yy rfl Y g,?_⟩;refine xg Y q Q [] (aK::cs) λe a s h q=> ?_;have j:∀(k:List Item) (c:Option rj),((k=[]/\c=o0)\/(∃k',k=.code .ret::k'/\c=C .ret)\/(∃i k',k=.code (.exit i)::k'/\exitTo i k'=o0/\c=C (.exit i)))->c=xr e->dv P main S Q s h (G ((⟨f,.normal,C l⟩:aS).at a k) (aK::cs)):=λk c n e=>by
   subst e;exact tU (g':=λv=>G (aK.finish v) cs) (fn:=f) rfl (λ_ _ _ _ _ _=>trivial) q λw v w' es h' g q=>⟨Yz rfl rfl n g,hc s h' v q⟩
  cases e with
  |cx=>exact j [] o0 (.inl ⟨rfl,rfl⟩) rfl
  |ext i=>exactλm o=>j _ _ (.inr (.inr ⟨i,m,rfl,by rw[o];rfl,rfl⟩)) rfl
  |ret=>exactλm=>j _ _ (.inr (.inl ⟨m,rfl,rfl⟩)) rfl
 |ext i=>exact q.elim
 |ret=>exact q.elim
end
end
end Go.Nk
