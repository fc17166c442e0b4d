/- Part Pam of the proof of ButtBack: lemmas. -/
import Derived.Conc.QuitsD
import Derived.Test.YthgephlghkjiaaaGreatDoorPaj
import Derived.Test.YthgephlghkjiaaaGreatDoorPal
set_option maxRecDepth 100000
set_option maxHeartbeats 4000000
set_option linter.all false
namespace Go.Nk
noncomputable section
open Go Go.Conc Go.Proofs
section
open Go.ConcM (OsLater muBlock MuAt muA msA)
structure rR(i:Nat)(a b:ay):Prop where
 aR:a.aR<=b.aR
 cap:b.cap=a.cap
 n0:b.n0=a.n0
 mu:b.mu=a.mu
 wg:b.wg=a.wg
 on:b.on=a.on
 I:b.I=a.I
 full:b.full=a.full
 wd:b.wd i=a.wd i
theorem rR.refl(i:Nat)(a:ay):rR i a a:=⟨Nat.le_refl _,rfl,rfl,rfl,rfl,rfl,rfl,rfl,rfl⟩
theorem rR.trans{i:Nat}{a b c:ay}(h:rR i a b)(k:rR i b c):rR i a c:=
 ⟨Nat.le_trans h.aR k.aR,k.cap.trans h.cap,k.n0.trans h.n0,k.mu.trans h.mu,k.wg.trans h.wg,k.on.trans h.on,k.I.trans h.I,k.full.trans h.full,k.wd.trans h.wd⟩
theorem rR.rel{i:Nat}{a b:ay}(h:ay.lS i a b):rR i a b:=⟨h.aR,h.cap,h.n0,h.mu,h.wg,h.on,h.I,h.full,h.wd⟩
theorem lT.c7{i:Nat}{a b:ay}(w:lT i a)(k:rR i a b):lT i b:=⟨w.pos,k.on.trans w.on,k.wd.trans w.wk,by rw [k.n0];exact w.n0,Nat.lt_of_lt_of_le w.aR k.aR⟩
structure dO(i:Nat)(bm s:ay)(m:a7)(bH b:Nat)(t:Bool)(g:List cT):Prop where
 w:lT i s
 cap:i<s.cap
 dj:s.cap<=s.n0+8
 c7:rR i bm s
 md:s.x.md i=m
 di:s.x.di i=b
 bH:s.bH i=bH
 cw:s.cw=some i↔t=true
 cL:s.cL i=g
section
variable{i:Nat}{bm s γ:ay}{m dR:a7}{bH aad b b9:Nat}{t:Bool}{g:List cT}
theorem dO.rel(c:dO i bm s m bH b t g)(a8:gW i s γ):dO i bm γ m bH b t g:=
 have k:=rR.rel a8.rel
 ⟨c.w.c7 k,by rw [k.cap];exact c.cap,by rw [k.cap,k.n0];exact c.dj,c.c7.trans k,a8.rel.md.trans c.md,a8.rel.di.trans c.di,a8.rel.bH.trans c.bH,a8.rel.cw.trans c.cw,a8.rel.cL.trans c.cL⟩
theorem dO.bB(c:dO i bm s m bH b t g)(a8:gW i s γ){x':cK}{evs:Array Event}(h1:x'.md i=dR)(h2:x'.di i=b9)(h3:deafBehind bH evs=aad):dO i bm (γ.bB i x' evs) dR aad b9 t g:=by
 have c:=c.rel a8;exact ⟨⟨c.w.pos,c.w.on,c.w.wk,c.w.n0,c.w.aR⟩,c.cap,c.dj,⟨c.c7.aR,c.c7.cap,c.c7.n0,c.c7.mu,c.c7.wg,c.c7.on,c.c7.I,c.c7.full,c.c7.wd⟩,h1,h2,by
  show Go.ConcN.upd γ.bH i (deafBehind (γ.bH i) evs) i=_;rw [Go.ConcN.upd_same,c.bH,h3],c.cw,c.cL⟩
def Old(s:ay)(p:Nat)(v:Nat):Prop:=s.x.cf s.cap<=p/\(s.x.mu≠v->s.x.cf s.cap<p)
theorem Old.rel{p v:Nat}(o:Old s p v)(a8:gW i s γ):Old γ p v:=by
 have h1:=a8.rel.cf;have h2:=a8.rel.word;unfold Old at*
 rw [a8.rel.cap];refine ⟨by omega,fun h=> ?_⟩;by_cases e:γ.x.mu=s.x.mu
 ·have:=o.2 (by rw [<- e];exact h);omega
 ·have:=h2 e;omega
theorem Old.bB{p v:Nat}(o:Old s p v)(a8:gW i s γ){x':cK}{evs:Array Event}(h1:x'.cf γ.cap<=γ.x.cf γ.cap)(h2:x'.mu≠γ.x.mu->x'.cf γ.cap<γ.x.cf γ.cap):Old (γ.bB i x' evs) p v:=by
 have o:=o.rel a8;unfold Old at*
 refine ⟨Nat.le_trans h1 o.1,fun h=> ?_⟩;have h:x'.mu≠v:=h;by_cases e:x'.mu=γ.x.mu
 ·have:=o.2 (by rw [<- e];exact h);exact Nat.lt_of_le_of_lt h1 this
 ·exact Nat.lt_of_lt_of_le (h2 e) o.1
theorem Old.new{γ:ay}:Old γ (γ.x.cf γ.cap) γ.x.mu:=⟨Nat.le_refl _,fun h=>absurd rfl h⟩
theorem KO{n:Nat}{f:a7->Nat}{md:Nat->a7}(aP:∀x,f x<=1):cnt n f md<=n:=by
 induction n with
 | zero=>simp [cnt,Go.ConcN.sumTo]
 | succ n aN=>simp only [cnt,Go.ConcN.sumTo] at aN ⊢;have:=aP (md n);omega
theorem cK.cu.lU{n:Nat}{x:cK}(h:x.cu n):x.W<=3*n/\x.M<=1:=by
 have a1:=KO (n:=n) (f:=a7.il) (md:=x.md) (by intro y;cases y<;>simp [a7.il]);have a2:=KO (n:=n) (f:=a7.hG) (md:=x.md) (by intro y;cases y<;>simp [a7.hG]);have a3:=KO (n:=n) (f:=a7.hH) (md:=x.md) (by intro y;cases y<;>simp [a7.hH]);have k1:=h.k1;have s1:=h.s1;rcases (show x.S=0\/x.S=1 by omega) with e|e
 ·have:=h.n0 e;omega
 ·have:=h.bm e;omega
theorem L3{n lo:Nat}{f:a7->Nat}{md:Nat->a7}(aP:∀y,f y<=1)(h0:f .out=0)(iy:∀j,md j≠.out->lo<=j):cnt n f md<=n- lo:=by
 induction n with
 | zero=>simp [cnt,Go.ConcN.sumTo]
 | succ n aN=>
  simp only [cnt,Go.ConcN.sumTo] at aN ⊢;have h1:=aP (md n);by_cases hm:md n=.out
  ·rw [hm,h0];omega
  ·have:=iy n hm;omega
theorem cK.cu.uU{n lo:Nat}{x:cK}(h:x.cu n)(iy:∀j,x.md j≠.out->lo<=j)(ao:n<=lo+8):x.W<=24:=by
 have a1:=L3 (n:=n) (f:=a7.il) (by intro y;cases y<;>simp [a7.il]) rfl iy;have a2:=L3 (n:=n) (f:=a7.hG) (by intro y;cases y<;>simp [a7.hG]) rfl iy;have a3:=L3 (n:=n) (f:=a7.hH) (by intro y;cases y<;>simp [a7.hH]) rfl iy;have k1:=h.k1;have s1:=h.s1;rcases (show x.S=0\/x.S=1 by omega) with e|e
 ·have:=h.n0 e;omega
 ·have:=h.bm e;omega
theorem cK.cu.dec{n:Nat}{x:cK}(h:x.cu n)(ao:x.W<=24):x.mu=8*x.W+(x.L+2*x.K+4*x.S)/\x.L+2*x.K+4*x.S<8/\x.W<100000000:=by
 have:=h.lU;have:=h.k1;have:=h.s1;have:=h.fg;unfold cK.mu;omega
end
end
section
open Go.ConcM (OsLater muBlock MuAt muA msA)
theorem avE:((0:Nat):Int)=0:=rfl
theorem avF:((1:Nat):Int)=1:=rfl
theorem avG:((2:Nat):Int)=2:=rfl
theorem avH:((3:Nat):Int)=3:=rfl
theorem AQ:((4:Nat):Int)=4:=rfl
theorem avI:((5:Nat):Int)=5:=rfl
theorem avJ:((6:Nat):Int)=6:=rfl
theorem avK:((7:Nat):Int)=7:=rfl
def j5:=aM (aM (aM (aM @ala @ak9) (aM @ak8 @ak7)) (aM (aM @ak5 @ak6) (aM @anI @anJ))) (aM (aM (aM @anK @ad7) (aM @alb @alc)) (aM @ald (aM (aM (aM avE avF) (aM avG avH)) (aM (aM AQ avI) (aM avJ avK)))))
theorem pq{h:ab}{m:Nat}[K:KK Value]:au Tryz.prog (Instr.fieldAt 201 (.pointer (some ⟨m,0,none⟩)) 0) h=K.f (.pointer (some ⟨m,0,none⟩)) h:=
 nq (ft:=21) (m:=0) (i:=0) Tryz.underlying201 rfl rfl (by kernel_rfl)
theorem L4{h:ab}{m:Nat}[K:KK Value]:au Tryz.prog (Instr.fieldAt 201 (.pointer (some ⟨m,0,none⟩)) 1) h=K.f (.pointer (some ⟨m,1,none⟩)) h:=
 nq (ft:=199) (m:=0) (i:=1) Tryz.underlying201 rfl rfl (by kernel_rfl)
theorem V4{h:ab}{m:Nat}[K:KK Value]:au Tryz.prog (Instr.fieldAt 203 (.pointer (some ⟨m,0,none⟩)) 1) h=K.f (.pointer (some ⟨m,0,none⟩)) h:=
 nq (ft:=201) (m:=1) (i:=1) Tryz.underlying203 rfl rfl (by kernel_rfl)
def fu(k:Nat)(e e':Env):Prop:=∀t,t<k->e' t=e t
theorem fu.refl(k:Nat)(e:Env):fu k e e:=fun _ _=>rfl
theorem fu.upd{k d:Nat}{e e':Env}{v:Value}(h:fu k e e')(hd:k<=d):fu k e (upd e' d v):=fun t aj=>by rw [aZ,if_neg (by omega)];exact h t aj
section
variable{main:Bool}{ah:Type}{S:Sys ah}{b:bn}{K:eZ->Env->List Deferred->ah->ab->Prop}{e:Env}{d:List Deferred}{s:ah}{h:ab}{W c:Nat}
def db(c:Nat):Nat:=if c &&& 4=0 then c ||| 1 else c
theorem asP(hW:W<100000000)(hc:c<8)(h6:e 6=.int .i32 (8*W+c:Nat))(h7:e 7=.int .i32 (8*W+c:Nat))
  (k:∀e',fu 7 e e'->e' 7=.int .i32 (8*W+db c:Nat)->cF Tryz.prog main S 139 b zo K e' d s h):cF Tryz.prog main S 139 b BI K e d s h:=by
 have fc:W<134217728:=by omega
 have eY:c=0\/c=1\/c=2\/c=3\/c=4\/c=5\/c=6\/c=7:=by omega
 rcases eY with rfl|rfl|rfl|rfl|rfl|rfl|rfl|rfl<;>simp only [bc,undef,seval,afD,afC,afB,afA,h6,h7,j5,bne,seval,fc]<;>exact k _ (by repeat (first|exact fu.refl _ _|refine fu.upd ?_ (by omega))) (by simp [aZ,db,h7])
def dB(W c:Nat):Nat:=if c &&& 5=0 then W else W+1
theorem asQ{x:Nat}(aa:x<8)(hW:W<100000000)(hc:c<8)(h6:e 6=.int .i32 (8*W+c:Nat))(h7:e 7=.int .i32 (8*W+x:Nat))
  (k:∀e',fu 7 e e'->e' 7=.int .i32 (8*(dB W c)+x:Nat)->cF Tryz.prog main S 139 b zp K e' d s h):cF Tryz.prog main S 139 b zo K e d s h:=by
 have fc:W<134217728:=by omega
 have eY:c=0\/c=1\/c=2\/c=3\/c=4\/c=5\/c=6\/c=7:=by omega
 rcases eY with rfl|rfl|rfl|rfl|rfl|rfl|rfl|rfl<;>simp only [bc,undef,seval,afz,afy,afx,afw,h6,h7,j5,bne,seval,fc,aa]<;>exact k _ (by repeat (first|exact fu.refl _ _|refine fu.upd ?_ (by omega))) (by simp [aZ,dB,h7])
def n3(c x:Nat)(st:Bool):Nat:=if st=true/\c &&& 1≠0 then x ||| 4 else x
theorem asR{V x:Nat}{st:Bool}(aa:x<8)(mE:V<134217728)(hW:W<100000000)(hc:c<8)(h3:e 3=.bool st)(h6:e 6=.int .i32 (8*W+c:Nat))(h7:e 7=.int .i32 (8*V+x:Nat))
  (k:∀e',fu 7 e e'->e' 7=.int .i32 (8*V+n3 c x st:Nat)->cF Tryz.prog main S 139 b zq K e' d s h):cF Tryz.prog main S 139 b zp K e d s h:=by
 have fc:W<134217728:=by omega
 have eY:c=0\/c=1\/c=2\/c=3\/c=4\/c=5\/c=6\/c=7:=by omega
 rcases eY with rfl|rfl|rfl|rfl|rfl|rfl|rfl|rfl<;>cases st<;>simp only [bc,undef,seval,afv,afu,aft,afs,h3,h6,h7,j5,bne,seval,fc,mE,aa]<;>exact k _ (by repeat (first|exact fu.refl _ _|refine fu.upd ?_ (by omega))) (by simp [aZ,n3,h7])
def n4(x:Nat)(aw:Bool):Nat:=if aw=true then x &&& 5 else x
theorem asS{V x:Nat}{aw:Bool}(aa:x<8)(mE:V<134217728)(h4:e 4=.bool aw)(h7:e 7=.int .i32 (8*V+x:Nat))(hk:aw=true->x &&& 2≠0)
  (k:∀e',fu 7 e e'->e' 7=.int .i32 (8*V+n4 x aw:Nat)->cF Tryz.prog main S 139 b zr K e' d s h):cF Tryz.prog main S 139 b zq K e d s h:=by
 have eY:x=0\/x=1\/x=2\/x=3\/x=4\/x=5\/x=6\/x=7:=by omega
 cases aw with
 | false=>
  simp only [bc,undef,seval,TT,TS,TR,h4];exact k _ (by repeat (first|exact fu.refl _ _|refine fu.upd ?_ (by omega))) (by simp [aZ,n4,h7])
 | true=>
  have hk:=hk rfl;rcases eY with rfl|rfl|rfl|rfl|rfl|rfl|rfl|rfl<;>(first|exact absurd rfl hk|skip)<;>simp only [bc,undef,seval,TT,TS,TR,afr,afo,afq,afp,h4,h7,j5,bne,seval,mE]<;>exact k _ (by repeat (first|exact fu.refl _ _|refine fu.upd ?_ (by omega))) (by simp [aZ,n4,h7])
def eT(c:Nat)(st aw:Bool):Nat:=n4 (n3 c (db c) st) aw
theorem avL{st aw:Bool}(hW:W<100000000)(hc:c<8)(h3:e 3=.bool st)(h4:e 4=.bool aw)(h6:e 6=.int .i32 (8*W+c:Nat))(hk:aw=true->c &&& 2≠0)
  (k:∀e',fu 7 e e'->e' 7=.int .i32 (8*(dB W c)+eT c st aw:Nat)->cF Tryz.prog main S 139 b zr K e' d s h):cF Tryz.prog main S 139 b BH K e d s h:=by
 have rC:∀c<8,db c<8:=by decide
 have aae:∀c<8,∀st,n3 c (db c) st<8:=by decide
 have asT:∀c<8,∀st,c &&& 2≠0->n3 c (db c) st &&& 2≠0:=by decide
 have lV:dB W c<134217728:=by unfold dB;split<;>omega
 simp only [bc,undef,seval,afE,h6];refine asP hW hc (by simp [aZ,h6]) (by simp [aZ]) fun e1 k1 v1=> ?_;have an:fu 7 e e1:=fun t aj=>by rw [k1 t aj];simp only [aZ];rw [if_neg (by omega),if_neg (by omega)]
 refine asQ (rC c hc) hW hc (by rw [an 6 (by omega),h6]) v1 fun e2 bX v2=> ?_;have az:fu 7 e e2:=fun t aj=>by rw [bX t aj,an t aj]
 refine asR (st:=st) (rC c hc) lV hW hc (by rw [az 3 (by omega),h3]) (by rw [az 6 (by omega),h6]) v2 fun e3 eL v3=> ?_;have aB:fu 7 e e3:=fun t aj=>by rw [eL t aj,az t aj]
 refine asS (aw:=aw) (aae c hc st) lV (by rw [aB 4 (by omega),h4]) v3 (fun h=>asT c hc st (hk h)) fun e4 e8 v4=> ?_;exact k e4 (fun t aj=>by rw [e8 t aj,aB t aj]) v4
end
end
section
variable{P:Program}{main:Bool}{ah:Type}{S:Sys ah}{b:bn}{s:ah}{h:ab}
theorem jN{t:TypeId}{A:Addr}{arr:Array Value}{ty:TypeId}{aY:Nat×Nat}{own:Bool}{v:Value}(aj:gq P t=some none)(hb:h A.block=some ⟨.cells arr ty aY,own⟩)(hs:A.spot=none)(aI:arr[A.off]? =some v)[K:hE ah]:
  fa P main S b t (.pointer (some A)) s h=K.f s h v:=by
 have e:h.cell? A=some v:=by unfold ab.cell?;rw [hb];simp [hs,aI]
 rw [u7 (K:=K) hb,KB (K:=⟨fun v h=>K.f s h v⟩) aj,e];rfl
theorem hf{c:Nat}{x:eI}(hc:h c=none):h.aD (h.put c x):=fun b y hb=>by
 unfold ab.put;split
 ·rename_i e;subst e;rw [hc] at hb;cases hb
 ·exact hb
theorem le_trans{h h' oT:ab}(p:h.aD h')(q:h'.aD oT):h.aD oT:=fun b x e=>q b x (p b x e)
theorem dd{c:Nat}{x:eI}:h.put c x c=some x:=by simp [ab.put]
theorem cG{c d:Nat}{x:eI}(b7:d≠c):h.put c x d=h d:=by simp [ab.put,b7]
theorem xZ:gq Tryz.prog 3=some none:=by kernel_rfl
theorem Cr:gq Tryz.prog 58=some none:=by kernel_rfl
theorem V5{m:Nat}[K:KK Value]:au Tryz.prog (Instr.fieldAt 131 (.pointer (some ⟨m,0,none⟩)) 0) h=K.f (.pointer (some ⟨m,0,none⟩)) h:=
 nq (ft:=58) (m:=0) (i:=0) Tryz.underlying131 rfl rfl (by kernel_rfl)
theorem L5{m:Nat}[K:KK Value]:au Tryz.prog (Instr.fieldAt 131 (.pointer (some ⟨m,0,none⟩)) 1) h=K.f (.pointer (some ⟨m,1,none⟩)) h:=
 nq (ft:=3) (m:=0) (i:=1) Tryz.underlying131 rfl rfl (by kernel_rfl)
end
section
variable{main:Bool}{ah:Type}{Sy:Sys ah}{s:ah}{h:ab}
def AR(p k:Nat)(n:Int):Value:=.agg #[.slice (some ⟨p,0,none⟩) 2 k,.int .i64 n]
theorem call101:bP Tryz.prog 101=true:=by kernel_rfl
theorem aim{p q k m:Nat}{o aO:Bool}{a b c d:b6}{n n':Int}(aA:a∈dv)(hb:b∈dv)(hc:c∈dv)(hd:d∈dv)(b7:p≠q)(aK:hO h p k [a,b] o)(aE:hO h q m [c,d] aO):
  bI Tryz.prog main Sy 101 #[AR p k n,AR q m n'] s h fun ai h' v=>ai=s/\h.aD h'/\v=.bool (decide (n<n'\/(n=n'/\vA a b c d<0))):=by
 refine cc (n:=21) (args:=[AR p k n,AR q m n']) Tryz.func101 aeP rfl (by simp) akV ?_;simp only [bc,undef,seval,ahI,ahH,ahG,p6,p7,AR,w8,V5,L5];intro c1 fe c2 cN;have iA:c2≠c1:=fun e=>by subst e;rw [dd] at cN;cases cN
 have aAJ:h c2=none:=by rw [cG iA] at cN;exact cN
 generalize e1:h.put c1 ⟨.cells (Value.agg #[.slice (some ⟨p,0,none⟩) 2 k,.int .i64 n]).cells 131,true⟩=h1 at cN ⊢;generalize e2:h1.put c2 ⟨.cells (Value.agg #[.slice (some ⟨q,0,none⟩) 2 m,.int .i64 n']).cells 131,true⟩=h2;have bM:h.aD h2:=by rw [<- e2];exact le_trans (by rw [<- e1];exact hf fe) (hf cN)
 have g1:h2 c1=some ⟨.cells #[.slice (some ⟨p,0,none⟩) 2 k,.int .i64 n] 131,true⟩:=by rw [<- e2,cG (Ne.symm iA),<- e1,dd];rfl
 have g2:h2 c2=some ⟨.cells #[.slice (some ⟨q,0,none⟩) 2 m,.int .i64 n'] 131,true⟩:=by rw [<- e2,dd];rfl
 have Db:∀(b:bn) (K:ah->ab->Value->Prop),@fa Tryz.prog main _ Sy b 3 (.pointer (some ⟨c1,1,none⟩)) s h2 ⟨K⟩=K s h2 (.int .i64 n):=fun b K=>jN (K:=⟨K⟩) xZ (A:=⟨c1,1,none⟩) g1 rfl rfl;have aaf:∀(b:bn) (K:ah->ab->Value->Prop),@fa Tryz.prog main _ Sy b 3 (.pointer (some ⟨c2,1,none⟩)) s h2 ⟨K⟩=K s h2 (.int .i64 n'):=fun b K=>jN (K:=⟨K⟩) xZ (A:=⟨c2,1,none⟩) g2 rfl rfl;have Qr:∀(b:bn) (K:ah->ab->Value->Prop),@fa Tryz.prog main _ Sy b 58 (.pointer (some ⟨c1,0,none⟩)) s h2 ⟨K⟩=K s h2 (.slice (some ⟨p,0,none⟩) 2 k):=fun b K=>jN (K:=⟨K⟩) Cr (A:=⟨c1,0,none⟩) g1 rfl rfl;have avM:∀(b:bn) (K:ah->ab->Value->Prop),@fa Tryz.prog main _ Sy b 58 (.pointer (some ⟨c2,0,none⟩)) s h2 ⟨K⟩=K s h2 (.slice (some ⟨q,0,none⟩) 2 m):=fun b K=>jN (K:=⟨K⟩) Cr (A:=⟨c2,0,none⟩) g2 rfl rfl;by_cases ao:n=n'
 ·have dW:(n != n')=false:=by rw [ao];simp
  simp only [bc,undef,seval,Db,aaf,L5,dW,Uy,ahE,V5,Qr,avM];obtain ⟨ck,asU⟩:=aeM (main:=main) (Sy:=Sy) (s:=s) aA hb hc hd b7 (aK.le bM) (aE.le bM);refine .inl ⟨ck,asU.mono fun ai h' v ⟨r1,r2,r3⟩=> ?_⟩;subst r1;subst r3;simp only [bc,undef,seval];refine bT Tryz.results101 (by simp) ?_;refine ⟨rfl,le_trans bM r2,?_⟩;simp [aZ,ao]
 ·have dW:(n != n')=true:=by simpa using ao
  simp only [bc,undef,seval,Db,aaf,dW,Uy,ahF,L5];refine bT Tryz.results101 (by simp) ?_;refine ⟨rfl,bM,?_⟩;simp [aZ,ao]
end
abbrev aW(l:List UInt8):Value:=.string ⟨⟨l⟩⟩
def Dc(o:Option UInt8)[K:A7 Value Prop]:Prop:=match o with|some w=>K.f (.int .u8 w.toNat)|none=>False
theorem nV(w:UInt8)(K:Value->Prop):@Dc (some w) ⟨K⟩=K (.int .u8 w.toNat):=rfl
section
variable{P:Program}{h:ab}
theorem JI{k:IntKind}{i:Int}{n:Nat}{c:BoundsCode}{α:Type}{Q:α->ab->Prop}:bf P (boundsPanic k i (↑n) c:Sem α) h Q=False:=by
 have aK:∀s,∀h,bf P (runtimePanic (.bounds (IntKind.i64.wrap i) n s c):Sem α) h Q=False:=by
  intro s h;simp [runtimePanic,aV,mJ,goPanic,bf]
 unfold boundsPanic;split<;>simp [aV,Bx,yS,aK,bh,Question.forced]
theorem anP{t:TypeId}(aj:P.underlying t=some .string){l:List UInt8}{k:IntKind}{i:Int}[K:KK Value]:
  au P (Instr.index t (aW l) (.int k i)) h=(0<=i/\@Dc l[i.toNat]? ⟨fun v=>K.f v h⟩):=by
 simp only [au,Instr.index,asIntOf,aV,bh,df,aj];by_cases hi:0<=i
 ·have aG:(⟨⟨l⟩⟩:ByteArray)[i.toNat]? =l[i.toNat]? :=by
   rcases Nat.lt_or_ge i.toNat l.length with af|af
   ·rw [List.getElem?_eq_getElem af,getElem?_pos (⟨⟨l⟩⟩:ByteArray) i.toNat af];rfl
   ·rw [List.getElem?_eq_none af,getElem?_neg (⟨⟨l⟩⟩:ByteArray) i.toNat (by show ¬i.toNat<l.length;omega)]
  simp only [hi,if_true,aG,true_and];cases l[i.toNat]? with
  | none=>simp only [Dc];exact JI
  | some w=>rfl
 ·simp only [hi,if_false,false_and];exact JI
theorem ale{t ty:TypeId}(aj:P.underlying t=some .string){l:List UInt8}[K:KK Value]:au P (Builtin.len_ #[t] ty #[aW l]) h=K.f (.int .i64 l.length) h:=Sx aj
theorem tb(l:List UInt8)(a b:Nat):(⟨⟨l⟩⟩:ByteArray).extract a b=⟨⟨(l.drop a).take (b- a)⟩⟩:=by
 apply ByteArray.ext;rw [ByteArray.data_extract];apply Array.toList_inj.1;simp
theorem ki{t:TypeId}{x y:Operand}{a b:List UInt8}[K:KK Value]:au P (cr .eql t x y (aW a) (aW b)) h=K.f (.bool (a==b)) h:=by
 simp only [au,cr,aV,eqGuard,binOp,Op.stringOp,En];simp [bh,aV]
theorem Xh{t:TypeId}{x y:Operand}{a b:List UInt8}[K:KK Value]:au P (cr .neq t x y (aW a) (aW b)) h=K.f (.bool (!(a==b))) h:=by
 simp only [au,cr,aV,eqGuard,binOp,Op.stringOp,En];simp [bh,aV]
theorem anQ(a b:List UInt8):(⟨⟨a⟩⟩:ByteArray)++(⟨⟨b⟩⟩:ByteArray)=⟨⟨a++b⟩⟩:=by
 apply ByteArray.ext;rw [ByteArray.data_append];apply Array.toList_inj.1;simp
theorem w6{t:TypeId}{x y:Operand}{a b:List UInt8}(af:a.length+b.length<=1000000)[K:KK Value]:au P (cr .add t x y (aW a) (aW b)) h=K.f (aW (a++b)) h:=by
 have sB:¬(((⟨⟨a⟩⟩:ByteArray).size+(⟨⟨b⟩⟩:ByteArray).size:Nat):Int)>IntKind.i64.max:=by
  have e:IntKind.i64.max=9223372036854775807:=by kernel_rfl
  have e1:(⟨⟨a⟩⟩:ByteArray).size=a.length:=rfl;have e2:(⟨⟨b⟩⟩:ByteArray).size=b.length:=rfl;rw [e,e1,e2];omega
 simp only [au,cr,aV,eqGuard,binOp,Op.stringOp,sB,if_false];simp only [bh,aV,anQ];simp [bh]
theorem anR{t:TypeId}(aj:P.underlying t=some .string){l:List UInt8}{k k':IntKind}{a b:Nat}(h1:a<=b)(h2:b<=l.length)[K:KK Value]:
  au P (Instr.sliceAt t (aW l) (some (.int k a)) (some (.int k' b)) none) h=K.f (aW ((l.drop a).take (b- a))) h:=by
 have oj:b<=(⟨⟨l⟩⟩:ByteArray).size:=h2;simp only [au,Instr.sliceAt,aV,df,aj];simp only [Instr.slice,aV,df,aj];rw [if_neg (by simp),aV];unfold Instr.sliceBounds;rw [aV,bh,aV];have e:=fun Q=>rY (P:=P) (h:=h) (k:=k') (c:=.sliceAlen) oj Q;have e2:=fun Q=>rY (P:=P) (h:=h) (k:=k) (c:=.sliceB) h1 Q;refine (e _).trans ?_;simp only [aV];refine (e2 _).trans ?_;show K.f (.string ((⟨⟨l⟩⟩:ByteArray).extract a b)) h=_;rw [tb]
theorem alf{t:TypeId}(aj:P.underlying t=some .string){l:List UInt8}{k:IntKind}{b:Nat}(h2:b<=l.length)[K:KK Value]:
  au P (Instr.sliceAt t (aW l) none (some (.int k b)) none) h=K.f (aW (l.take b)) h:=by
 have oj:b<=(⟨⟨l⟩⟩:ByteArray).size:=h2;simp only [au,Instr.sliceAt,aV,df,aj];simp only [Instr.slice,aV,df,aj];rw [if_neg (by simp),aV];simp only [Instr.sliceBounds,aV,bh,rY oj,tb,List.drop_zero,Nat.sub_zero]
theorem V6{t:TypeId}(aj:P.underlying t=some .string){l:List UInt8}{k:IntKind}{a:Nat}(h2:a<=l.length)[K:KK Value]:
  au P (Instr.sliceAt t (aW l) (some (.int k a)) none none) h=K.f (aW (l.drop a)) h:=by
 have oj:a<=(⟨⟨l⟩⟩:ByteArray).size:=h2;simp only [au,Instr.sliceAt,aV,df,aj];simp only [Instr.slice,aV,df,aj];rw [if_neg (by simp),aV];have e:(l.drop a).take ((⟨⟨l⟩⟩:ByteArray).size- a)=l.drop a:=List.take_of_length_le (by show _<=l.length- a;simp);simp only [Instr.sliceBounds,aV,bh,rY oj,tb,e]
theorem eQ{main:Bool}{ah:Type}{S:Sys ah}{f:FuncId}{args:Array Value}{s:ah}{v:Value}{K:ah->ab->Value->Prop}(ck:bP P f=true)(c:bI P main S f args s h fun ai h' bQ=>ai=s/\h'=h/\bQ=v)(k:K s h v):@eX P main _ S f args s h ⟨K⟩:=
 .inl ⟨ck,c.mono fun _ _ _ ⟨e1,e2,e3⟩=>by subst e1;subst e2;subst e3;exact k⟩
theorem c0{main:Bool}{ah:Type}{S:Sys ah}{f:FuncId}{args:Array Value}{s:ah}{Q K:ah->ab->Value->Prop}(ck:bP P f=true)(c:bI P main S f args s h Q)(k:∀ai h' v,Q ai h' v->K ai h' v):@eX P main _ S f args s h ⟨K⟩:=
 .inl ⟨ck,c.mono k⟩
def Pure(P:Program)(main:Bool){ah:Type}(S:Sys ah)(f:FuncId)(args:Array Value)(v:Value):Prop:=∀s h,bI P main S f args s h fun ai h' bQ=>ai=s/\h'=h/\bQ=v
end
def isLet(w:UInt8):Bool:=decide ((97:Int)<=w.toNat)&&decide ((w.toNat:Int)<=122)
def kM(w:UInt8):Bool:=decide ((48:Int)<=w.toNat)&&decide ((w.toNat:Int)<=57)
section
variable{main:Bool}{ah:Type}{S:Sys ah}
theorem call47:bP Tryz.prog 47=true:=by kernel_rfl
theorem call48:bP Tryz.prog 48=true:=by kernel_rfl
theorem call53:bP Tryz.prog 53=true:=by kernel_rfl
theorem call86:bP Tryz.prog 86=true:=by kernel_rfl
theorem call87:bP Tryz.prog 87=true:=by kernel_rfl
theorem pk(n lo hi:Int):Pure Tryz.prog main S 53 #[.int .i64 n,.int .i64 lo,.int .i64 hi] (.bool (decide (lo<=n)&&decide (n<=hi))):=by
 intro s h;refine cc (args:=[.int .i64 n,.int .i64 lo,.int .i64 hi]) Tryz.func53 (by delta Tryz.f53;rfl) Tryz.ntmps53 (by simp) (by kernel_rfl) ?_;by_cases h1:lo<=n<;>simp only [h1,bc,seval]<;>exact bT Tryz.results53 (by simp) (by simp [aZ])
theorem pF(n lo hi:Int):Pure Tryz.prog main S 47 #[.int .i64 n,.int .i64 lo,.int .i64 hi] (.bool (decide (lo<=n)&&decide (n<=hi))):=by
 intro s h;refine cc (args:=[.int .i64 n,.int .i64 lo,.int .i64 hi]) Tryz.func47 (by delta Tryz.f47;rfl) Tryz.ntmps47 (by simp) (by kernel_rfl) ?_;by_cases h1:lo<=n<;>simp only [h1,bc,seval]<;>exact bT Tryz.results47 (by simp) (by simp [aZ])
theorem UO(w:UInt8):Pure Tryz.prog main S 86 #[.int .u8 w.toNat] (.bool (isLet w)):=by
 intro s h;refine cc (args:=[.int .u8 w.toNat]) Tryz.func86 (by delta Tryz.f86;rfl) Tryz.ntmps86 (by simp) (by kernel_rfl) ?_;by_cases h1:(97:Int)<=w.toNat<;>simp only [h1,bc,seval]<;>refine bT Tryz.results86 (by simp) ?_<;>simp only [aZ,isLet,h1,↓reduceIte,decide_true,decide_false,Bool.true_and,Bool.false_and]<;>trivial
theorem alg(w:UInt8):Pure Tryz.prog main S 87 #[.int .u8 w.toNat] (.bool (kM w)):=by
 intro s h;refine cc (args:=[.int .u8 w.toNat]) Tryz.func87 (by delta Tryz.f87;rfl) Tryz.ntmps87 (by simp) (by kernel_rfl) ?_;by_cases h1:(48:Int)<=w.toNat<;>simp only [h1,bc,seval]<;>refine bT Tryz.results87 (by simp) ?_<;>simp only [aZ,kM,h1,↓reduceIte,decide_true,decide_false,Bool.true_and,Bool.false_and]<;>trivial
end
def key(c:cT):Int:=64*c.1+match c.2 with|[a,b]=>8*oW a+oW b|_=>0
theorem Xi{a b c d:b6}{n n':Int}(aA:a∈dv)(hb:b∈dv)(hc:c∈dv)(hd:d∈dv):(n<n'\/(n=n'/\vA a b c d<0))↔key (n,[a,b])<key (n',[c,d]):=by
 rw [ahq aA hb hc hd];have h1:=(wU aA aA).2.2;have h2:=(wU hb hb).2.2;have h3:=(wU hc hc).2.2;have h4:=(wU hd hd).2.2;simp only [key];omega
def kv(fb bb:Nat):ab:=fun b=>if b=fb then some ⟨.cells #[.bool false] 4 (0,0),true⟩ else if b=bb then some ⟨.cells #[.slice none 0 0,.int .i64 0] 131 (0,0),true⟩ else none
def iP(fb bb p k:Nat)(n:Int)(arr:Array Value):ab:=fun b=>if b=fb then some ⟨.cells #[.bool true] 4 (0,0),true⟩ else if b=bb then some ⟨.cells #[.slice (some ⟨p,0,none⟩) 2 k,.int .i64 n] 131 (0,0),true⟩ else if b=p then some ⟨.cells arr 57 (0,0),true⟩ else none
def vB(fb bb:Nat)(cL:Nat->List cT)(bk:ab):Prop:=
 ((∀i,cL i=[])/\bk=kv fb bb)\/
 ∃(i:Nat) (c:cT) (a b:b6) (p k:Nat) (arr:Array Value) (rest:List Value),c∈cL i/\c.2=[a,b]/\a∈dv/\b∈dv/\(∀j,∀b2∈cL j,key c<=key b2)/\p≠fb/\p≠bb/\
  arr.toList=iw [a,b]++rest/\(∃bo,cy Tryz.prog 57=some bo/\arr.size=k*bo)/\bk=iP fb bb p k c.1 arr
def mV(cL:Nat->List cT)(i:Nat)(c:cT):Nat->List cT:=fun j=>if j=i then cL i++[c] else cL j
theorem UP{cL:Nat->List cT}{i j:Nat}{c b2:cT}(h:b2∈mV cL i c j):b2∈cL j\/b2=c:=by
 unfold mV at h;split at h
 ·rename_i e;subst e;rcases List.mem_append.1 h with q|q
  ·exact .inl q
  ·exact .inr (by simpa using q)
 ·exact .inl h
theorem ain{cL:Nat->List cT}{i j:Nat}{c b2:cT}(h:b2∈cL j):b2∈mV cL i c j:=by
 unfold mV;split
 ·rename_i e;subst e;exact List.mem_append.2 (.inl h)
 ·exact h
theorem aio{cL:Nat->List cT}{i:Nat}{c:cT}:c∈mV cL i c i:=by simp [mV]
theorem vB.better{fb bb:Nat}{cL:Nat->List cT}{i p k:Nat}{n:Int}{a b:b6}{arr:Array Value}{rest:List Value}(aA:a∈dv)(hb:b∈dv)(sj:∀j,∀b2∈cL j,key (n,[a,b])<=key b2)(h1:p≠fb)(h2:p≠bb)(vC:arr.toList=iw [a,b]++rest)(eJ:∃bo,cy Tryz.prog 57=some bo/\arr.size=k*bo):
  vB fb bb (mV cL i (n,[a,b])) (iP fb bb p k n arr):=
 .inr ⟨i,(n,[a,b]),a,b,p,k,arr,rest,aio,rfl,aA,hb,fun j b2 hc=>by
  rcases UP hc with q|q
  ·exact sj j b2 q
  ·rw [q];exact Int.le_refl _,h1,h2,vC,eJ,rfl⟩
theorem vB.same{fb bb:Nat}{cL:Nat->List cT}{i0 i p k:Nat}{c c1:cT}{a b:b6}{arr:Array Value}{rest:List Value}(hm:c∈cL i0)(hc:c.2=[a,b])(aA:a∈dv)(hb:b∈dv)(sj:∀j,∀b2∈cL j,key c<=key b2)(hle:key c<=key c1)(h1:p≠fb)(h2:p≠bb)(vC:arr.toList=iw [a,b]++rest)(eJ:∃bo,cy Tryz.prog 57=some bo/\arr.size=k*bo):
  vB fb bb (mV cL i c1) (iP fb bb p k c.1 arr):=
 .inr ⟨i0,c,a,b,p,k,arr,rest,ain hm,hc,aA,hb,fun j b2 eY=>by
  rcases UP eY with q|q
  ·exact sj j b2 q
  ·rw [q];exact hle,h1,h2,vC,eJ,rfl⟩
def qI(N fb bb:Nat)(cL:Nat->List cT)(bk:ab):Prop:=vB fb bb cL bk/\∀j,(j<N\/N+8<=j)->cL j=[]
theorem qI.start(N fb bb:Nat):qI N fb bb (fun _=>[]) (kv fb bb):=⟨.inl ⟨fun _=>rfl,rfl⟩,fun _ _=>rfl⟩
theorem aip(fb bb:Nat):(kv fb bb).kR:=fun b x h=>by
 unfold kv at h;split at h
 ·cases h;rfl
 ·split at h
  ·cases h;rfl
  ·cases h
theorem UQ(fb bb p k:Nat)(n:Int)(arr:Array Value):(iP fb bb p k n arr).kR:=fun b x h=>by
 unfold iP at h;split at h
 ·cases h;rfl
 ·split at h
  ·cases h;rfl
  ·split at h
   ·cases h;rfl
   ·cases h
def prun(P:Program){α:Type}:Sem α->Option α
 | .pure a=>some a
 | .program k=>prun P (k P)
 | _=>none
theorem rZ{P:Program}{α:Type}:∀{m:Sem α} {a:α},prun P m=some a->∀w es,m.runT P w es=(.ok a w,es):=by
 intro m
 induction m with
 | pure a=>intro b h w es;cases h;simp [Sem.runT]
 | program k aN=>intro b h w es;simp only [Sem.runT];exact aN P h w es
 | _=>intro b h;cases h
def Qs(P:Program)(aY:Frame)(cs:List Frame)(o:Oper):Option (Frame×List Frame):=
 match aY.roundOf with
 | some _=>none
 | none=>match prun P (execOp aY.eval o) with
  | some (.value v)=>some (aY.finish v,cs)
  | some .skip=>some (aY.finish undef,cs)
  | some (.defer d)=>some ({aY with defers:=d::aY.defers}.finish undef,cs)
  | some (.enter f args)=>some (Frame.enter P f args .normal,aY::cs)
  | _=>none
def G3(P:Program)(aY:Frame)(cs:List Frame):Option (Frame×List Frame):=
 match aY.mode with
 | .run=>match aY.roundOf with
  | some _=>none
  | none=>match aY.todo with
   | []=>some ({aY with mode:=.returning},cs)
   | .code .ret::_=>some ({aY with mode:=.returning},cs)
   | .code .skip::k=>some ({aY with todo:=k},cs)
   | .inBlock _::k=>some ({aY with todo:=k},cs)
   | .code (.seq a b)::k=>some ({aY with todo:=.code a::.code b::k},cs)
   | .code (.cond c x y)::k=>match aY.eval c with
    | .bool t=>some ({aY with todo:=.code (if t then x else y)::k},cs)
    | _=>none
   | .code (.block i c)::k=>some ({aY with todo:=.code c::.inBlock i::k},cs)
   | .code (.loop c)::k=>some ({aY with todo:=.code c::.inLoop c::k},cs)
   | .inLoop c::k=>some ({aY with todo:=.code c::.inLoop c::k},cs)
   | .code (.exit i)::k=>match exitTo i k with
    | some k'=>some ({aY with todo:=k'},cs)
    | none=>none
   | .code (.region _ ops false)::k=>some ({aY with todo:=.inRegion ops (List.range ops.size)::k},cs)
   | .inRegion _ []::k=>some ({aY with todo:=k},cs)
   | .inRegion ops (i::rest)::k=>match ops[i]? with
    | none=>none
    | some o=>match Region.wanted o (yielded ops aY.tmps) with
     | false=>some (aY.finish undef,cs)
     | true=>match aY.kind with
      | .early=>none
      | _=>Qs P aY cs o
   | _=>none
 | .returning=>match aY.defers with
  | []=>match P.funcs[aY.fn]? with
   | none=>none
   | some fn=>match prun P (results fn aY.tmps) with
    | none=>none
    | some v=>match cs with
     | []=>none
     | c::cs=>match aY.kind with
      | .normal=>some (c.finish v,cs)
      | .deferred=>match c.mode with
       | .returning=>some (c,cs)
       | .panicking (e::_)=>match e.recovered with
        | false=>some (c,cs)
        | true=>none
       | _=>none
      | _=>none
  | _=>none
 | _=>none
theorem aiq{aY:Frame}(hm:aY.mode=.run):aY=(⟨aY.fn,aY.kind,aY.roundOf⟩:bn).at ⟨aY.tmps,aY.defers⟩ aY.todo:=by
 cases aY;simp only at hm;subst hm;rfl
theorem SV{P:Program}{main:Bool}{aY uv:Frame}{cs kU:List Frame}(h:G3 P aY cs=some (uv,kU))(w:World):stepG P main (G aY cs) w=.go (G uv kU) w #[]:=by
 unfold G3 at h;split at h
 ·rename_i hm;split at h
  ·cases h
  ·rename_i lj;obtain ⟨fn,tmps,todo,defers,mode,kind,ro⟩:=aY;simp only at hm lj h;subst hm lj;split at h
   all_goals first
    | (cases h;simp [G,stepG,stepG.exec];done)
    | skip
   ·
    split at h
    ·rename_i he;cases h;simp only [G,stepG,stepG.exec,he]
    ·cases h
   ·split at h
    ·rename_i he;cases h;simp [G,stepG,stepG.exec,he]
    ·cases h
   ·rename_i ops i rest k;split at h
    ·cases h
    ·rename_i o aQ;split at h
     ·rename_i hw;cases h;simp [G,stepG,stepG.exec,aQ,hw]
     ·rename_i hw;have hk:kind≠.early:=by rintro rfl;cases h
      have aE:Qs P ⟨fn,tmps,.inRegion ops (i::rest)::k,defers,.run,kind,none⟩ cs o=some (uv,kU):=by
       split at h
       ·cases h
       ·exact h
      unfold Qs at aE;simp only at aE;let b:bn:=⟨fn,kind,none⟩;let a:Act:=⟨tmps,defers⟩;have n5:∀(ds:List Deferred) v,({fn:=fn,tmps:=tmps,todo:=.inRegion ops (i::rest)::k,defers:=ds,mode:=.run,kind:=kind,roundOf:=none}:Frame).finish v=b.at (({a with defers:=ds}:Act).put o.dst v) (.inRegion ops rest::k):=fun ds v=>by
       have:=bn.finish_at b {a with defers:=ds} ops i rest k v;rw [aQ] at this;exact this
      have iO:(⟨fn,tmps,.inRegion ops (i::rest)::k,defers,.run,kind,none⟩:Frame).eval=a.eval:=bn.GK (b:=b) (a:=a) (.inRegion ops (i::rest)::k);rw [iO] at aE;have ap:=fun ar w' es g'=>@tq P main b a k cs w ops i rest o aQ hw (by unfold lE;split<;>simp_all [b]) hk ar w' es g';split at aE
      ·rename_i v aK;cases aE;have:=ap _ _ _ _ (rZ aK w #[]) rfl;rw [seen_none] at this;rw [n5];exact this
      ·rename_i aK;cases aE;have:=ap _ _ _ _ (rZ aK w #[]) rfl;rw [seen_none] at this;rw [n5];exact this
      ·rename_i d aK;cases aE;have:=ap _ _ _ _ (rZ aK w #[]) rfl;rw [seen_none] at this;rw [n5];exact this
      ·rename_i f args aK;cases aE;have:=ap _ _ _ _ (rZ aK w #[]) rfl;rw [seen_none] at this;exact this
      ·cases aE
   ·cases h
 ·rename_i hm;split at h
  ·rename_i hd;split at h
   ·cases h
   ·rename_i fn aP;split at h
    ·cases h
    ·rename_i v aK;split at h
     ·cases h
     ·rename_i c cs;obtain ⟨fnn,tmps,todo,defers,mode,kind,ro⟩:=aY;simp only at hm hd aP aK h;subst hm hd;split at h
      ·cases h;simp [-Sem.runT_eq,G,stepG,unwind,aP,rZ aK w #[],doReturn,GStep.after,seen_none]
      ·split at h
       ·rename_i hc;cases h;simp [-Sem.runT_eq,G,stepG,unwind,aP,rZ aK w #[],doReturn,GStep.after,seen_none,hc]
       ·rename_i e aAD hc;obtain ⟨aS,RQ,ab7⟩:=e;simp only at h;split at h
        ·cases h;simp [-Sem.runT_eq,G,stepG,unwind,aP,rZ aK w #[],doReturn,GStep.after,seen_none,hc]
        ·cases h
       ·cases h
      ·cases h
  ·cases h
 ·cases h
def xm(P:Program):Nat->Frame->List Frame->Frame×List Frame
 | 0,aY,cs=>(aY,cs)
 | n+1,aY,cs=>match G3 P aY cs with
  | some (uv,kU)=>xm P n uv kU
  | none=>(aY,cs)
theorem Oy{P:Program}{main:Bool}{ah:Type}{S:Sys ah}{Q:ah->ab->Goroutine->Prop}{s:ah}{h:ab}:∀(n:Nat) {aY:Frame} {cs:List Frame},dp P main S Q s h (G (xm P n aY cs).1 (xm P n aY cs).2)->dp P main S Q s h (G aY cs)
 | 0,_,_,r=>r
 | n+1,aY,cs,r=>by
  unfold xm at r;split at r
  ·rename_i uv kU aE;exact .ik rfl (fun w=>SV aE w) (Oy n r)
  ·exact r
def Nl(d:Deferred):Option FuncId:=match d.target with
 | .fn (.func f) c=>match c.toList,d.args.toList with
  | [],[]=>some f
  | _,_=>none
 | _=>none
theorem afS{d:Deferred}{f:FuncId}(h:Nl d=some f):d=dcall f #[]:=by
 obtain ⟨t,args⟩:=d;unfold Nl at h;split at h
 ·rename_i g c aj;simp only at aj;subst aj;split at h
  ·rename_i h1 h2;cases h;have h1:c=#[]:=by cases c;simp_all
   have h2:args=#[]:=by cases args;simp_all
   rw [h1,h2];rfl
  ·cases h
 ·cases h
def quits(P:Program)(cR:FuncId):Nat->Nat->Frame->List Frame->Bool
 | 0,_,_,_=>false
 | n+1,d,aY,cs=>match G3 P aY cs with
  | some (uv,kU)=>quits P cR n d uv kU
  | none=>match aY.mode with
   | .returning=>match aY.defers with
    | x::ds=>match Nl x with
     | some f=>Nat.beq f cR&&Nat.beq d 1&&quits P cR n 0 {aY with defers:=ds} cs
     | none=>false
    | []=>match cs with
     | []=>match aY.kind with
      | .normal=>match P.funcs[aY.fn]? with
       | some fn=>(prun P (results fn aY.tmps)).isSome&&Nat.beq d 0
       | none=>false
      | _=>false
     | _=>false
   | .panicking chain=>match aY.defers with
    | []=>match cs with
     | []=> !(aY.catches P)&&chain.head?.any (·.goexit)&&Nat.beq d 0
     | _=>false
    | _=>false
   | _=>false
theorem adz{P:Program}{cR:FuncId}{vZ:Func}(aP:P.funcs[cR]? =some vZ)(qg:(vZ.name== "runtime.NumGoroutine")=false)(hb:vZ.body.isNone=true)(ao:Extern.findNext vZ=none)(he:Extern.find vZ=some (fun _=>do mark .enable;pure Extern.Race.none_)):
  ∀(n d:Nat) (aY:Frame) (cs:List Frame),quits P cR n d aY cs=true->QuitsD P n d (G aY cs):=by
 intro n
 induction n with
 | zero=>intro d aY cs h;cases h
 | succ n aN=>
  intro d aY cs h;unfold quits at h;split at h
  ·rename_i uv kU aE;exact .ctl rfl (fun w=>SV aE w) (aN _ _ _ h)
  ·split at h
   ·rename_i hm;obtain ⟨fnn,tmps,todo,defers,mode,kind,ro⟩:=aY;simp only at hm h;subst hm;split at h
    ·rename_i ds _ _ x;split at h
     ·rename_i f aa;simp only [Bool.and_eq_true] at h;obtain ⟨⟨h1,h2⟩,h⟩:=h;obtain rfl:f=cR:=Nat.eq_of_beq_eq_true h1;obtain rfl:d=1:=Nat.eq_of_beq_eq_true h2;rw [afS aa];have key:=aN _ _ _ h;refine .said ⟨.mark .enable,false,true⟩ rfl rfl (fun w=> ?_) key;have al:(callFunc f #[]).run P w=.ok (.value (.tuple #[])) w:=by rw [run_callFunc_extern aP qg hb ao he];simp [Extern.Race.none_,Result.andThen]
      have af:seen P fnn ((callFunc f #[]).events P w #[])=#[⟨.mark .enable,false,true⟩]:=by
       rw [events_callFunc_extern aP qg hb ao he];have:=seen_entry (P:=P) (f:=f) fnn (#[⟨.mark .enable,false,true⟩]) (by intro x aa;simp at aa;subst aa;exact ⟨rfl,fun g h=>by cases h⟩);simpa using this
      simp [G,stepG,unwind,callDeferred,dcall,invoke,al,GStep.after] at af ⊢;exact af
     ·cases h
    ·split at h
     ·split at h
      ·skip
       split at h
       ·rename_i fn Qt;simp only [Bool.and_eq_true] at h;obtain ⟨h,h2⟩:=h;obtain rfl:d=0:=Nat.eq_of_beq_eq_true h2;obtain ⟨v,aI⟩:=Option.isSome_iff_exists.1 h;refine .inr ⟨rfl,{G ⟨fnn,tmps,todo,[],.returning,.normal,ro⟩ [] with status:=.finished},#[],by simp,fun w=> ?_,?_⟩
        ·simp [-Sem.runT_eq,G,stepG,unwind,Qt,rZ aI w #[],doReturn,GStep.after,seen_none]
        ·cases n with
         | zero=>exact ⟨rfl,rfl⟩
         | succ n=>exact .inl ⟨rfl,rfl⟩
       ·cases h
      ·cases h
     ·cases h
   ·rename_i chain hm;obtain ⟨fnn,tmps,todo,defers,mode,kind,ro⟩:=aY;simp only at hm h;subst hm;split at h
    ·split at h
     ·simp only [Bool.and_eq_true,Bool.not_eq_true'] at h;obtain ⟨⟨h1,h2⟩,h3⟩:=h;obtain rfl:d=0:=Nat.eq_of_beq_eq_true h3;refine .inr ⟨rfl,{G ⟨fnn,tmps,todo,[],.panicking chain,kind,ro⟩ [] with status:=.finished},#[],by simp,fun w=> ?_,?_⟩
      ·simp [-Sem.runT_eq,G,stepG,unwind,h1,h2]
      ·cases n with
       | zero=>exact ⟨rfl,rfl⟩
       | succ n=>exact .inl ⟨rfl,rfl⟩
     ·cases h
    ·cases h
   ·cases h
section
variable{P:Program}{main:Bool}{ah:Type}{S:Sys ah}{b:bn}{a:Act}{k:List Item}{cs:List Frame}{w w':World}{s:ah}{h:ab}
theorem T0{f:FuncId}{x y args:Array Value}(ck:bP P f=true):prun P (sm (.func (.func f) x y) args)=some (.enter f (x++args++y)):=by
 unfold bP at ck;split at ck
 ·rename_i fn aP;simp only [Bool.and_eq_true,Bool.not_eq_true'] at ck;obtain ⟨c1,c2⟩:=ck;obtain ⟨c,hc⟩:=Option.isSome_iff_exists.1 c2;have avN:¬fn.name= "runtime.NumGoroutine" :=by simpa using c1
  show prun P (do let d <- Deferred.ofValue (.func (.func f) x y) args;invoke d.target d.args)=_;simp only [Deferred.ofValue];show prun P (callFunc f (x++args++y))=_;unfold callFunc;show prun P (Sem.bind program _)=_;simp [program,Sem.bind,prun,aP,avN,hc];rfl
 ·cases ck
theorem adm{f:Operand}{bF:Array Tmp}{gN body:Code}{oX:FuncId}{x y:Array Value}{l:Nat}{mark:List Deferred}{es:Array Event}(ck:bP P oX=true)(lj:b.ro=none)(hk:b.kind≠.early)(aP:a.eval f=.func (.func oX) x y)
  (al:(Instr.enterLoop b.fn a.tmps bF gN body none).runT P w #[]=(.ok (l,mark) w',es)):
  stepG P main (G (b.at a (.code (.rangeFunc f bF gN body)::k)) cs) w=.go (G (Frame.enter P oX (x++#[.func (.yield l) #[] #[]]++y) .normal) (b.at ⟨a.tmps,mark++a.defers⟩ (.inRangeFunc l::k)::cs)) w' (seen P b.fn es):=by
 have hJ:(b.kind==CallKind.early)=false:=by simpa using hk
 have hinv:=rZ (T0 (x:=x) (y:=y) (args:=#[.func (.yield l) #[] #[]]) ck) w' #[];have avO:∀(t:List Item) (m:FrameMode) (ds:List Deferred),({fn:=b.fn,tmps:=a.tmps,todo:=t,defers:=ds,mode:=m,kind:=b.kind,roundOf:=none}:Frame).eval f=.func (.func oX) x y:=fun t m ds=>by rw [<- aP];cases f<;>rfl
 simp [-Sem.runT_eq,G,stepG,stepG.exec,bn.at,lj,al,stepG.apply,GStep.after,resolve,avO,hJ];have e2:∀aY:Frame,(do let d <- Deferred.ofValue (.func (.func oX) x y) #[aY.eval (.const (.func (.yield l) #[] #[]))];invoke d.target d.args:Sem Next).runT P w' #[]=(.ok (.enter oX (x++#[.func (.yield l) #[] #[]]++y)) w',#[]):=fun aY=>hinv;simp only [e2];simp [seen_none,G]
theorem afT{f:Operand}{bF:Array Tmp}{gN body:Code}{oX:FuncId}{x y:Array Value}{K:eZ->Act->ah->ab->Prop}(ck:bP P oX=true)(lj:b.ro=none)(hk:b.kind≠.early)(aP:a.eval f=.func (.func oX) x y)
  (u:bf P (Instr.enterLoop b.fn a.tmps bF gN body none) h fun lm h1=>bI P main S oX (x++#[.func (.yield lm.1) #[] #[]]++y) s h1 fun ai h' v=>bf P (Instr.endLoop lm.1) h' fun jump h2=>jump=none/\K .cB ⟨a.tmps,lm.2++a.defers⟩ ai h2):
  jM P main S b (.rangeFunc f bF gN body) K a s h:=by
 intro Q k cs hc;refine .step ⟨rfl,fun w dF=> ?_⟩;obtain ⟨lm,w',h1,es,e1,e2,e3,e4,e5⟩:=JU P _ h _ w #[] dF u;rw [Array.empty_append] at e1;obtain ⟨l,mark⟩:=lm;refine ⟨_,w',_,h1,adm ck lj hk aP e1,e3,e4,fun e he=>e5 e (mem_seen he),?_⟩;refine e2 Q _ cs fun ai h' v q=> ?_;have n5:(b.at ⟨a.tmps,mark++a.defers⟩ (.inRangeFunc l::k)).finish v=b.at ⟨a.tmps,mark++a.defers⟩ (.endRangeFunc l::k):=rfl;rw [n5];exact wO (g':=fun j=>G (b.at ⟨a.tmps,mark++a.defers⟩ ((j.map Item.code).toList++k)) cs) (fn:=b.fn) rfl (fun _ _ _ _ _ _=>trivial) q fun w v w' es h' e q=>by
  obtain ⟨rfl,q⟩:=q;exact ⟨acQ e,hc .cB _ _ _ q⟩
theorem JY{n:Nat}{f:Operand}{bF:Array Tmp}{gN body:Code}{oX:FuncId}{x y:Array Value}{K:eZ->Env->List Deferred->ah->ab->Prop}{e:Env}{d:List Deferred}(ck:bP P oX=true)(lj:b.ro=none)(hk:b.kind≠.early)(aP:aS e f=.func (.func oX) x y)
  (u:bf P (Instr.enterLoop b.fn (Array.ofFn (n:=n) fun i=>e i) bF gN body none) h fun lm h1=>bI P main S oX (x++#[.func (.yield lm.1) #[] #[]]++y) s h1 fun ai h' v=>bf P (Instr.endLoop lm.1) h' fun jump h2=>jump=none/\K .cB e (lm.2++d) ai h2):
  cF P main S n b (.rangeFunc f bF gN body) K e d s h:=by
 intro a r hd;subst hd;refine afT ck lj hk (by rw [GM r];exact aP) ?_;rw [EW r];refine oF P _ (fun lm h1 q=>q.mono fun ai h' v q=>oF P _ (fun j h2 q=>⟨q.1,e,?_,q.2⟩) q) u;have:=EW r;rw [<- this];exact r
theorem JZ{n l:Nat}{f:FuncId}{tmps:Array Value}{gN body:Code}{Post:ah->ab->Value->Prop}{e:Env}(r:iH n ⟨tmps,[]⟩ e)(h1:ga n gN=true)(h2:ga n body=true)
  (u:cF P main S n ⟨f,.normal,some l⟩ gN (fun x=>match x with
   | .cB=>fun e d s h=>bf P (Instr.beginRound l) h fun _ h'=>cF P main S n ⟨f,.normal,some l⟩ body (fun x e d s h=>bf P (Instr.endRound l (FX x)) h fun v h'=>Post s h' v) e d s h'
   | _=>fun _ _ _ _=>False) e [] s h):kq P main S l f tmps gN body s h Post:=by
 refine aez (wR (fun x a s h ⟨e,r,q⟩=> ?_) (yV h1 r u));cases x with
 | ext i=>exact q.elim
 | ret=>exact q.elim
 | cB=>exact oF P _ (fun _ h' q=>wR (fun x a s h ⟨e,r,q⟩=>q) (yV h2 r q)) q
theorem Er{l:Nat}{L:Loop}{o:Bool}{K:Loop->ab->Prop}(af:h l=some ⟨.loop L,o⟩):bf P (Instr.getLoop l) h K=K L h:=by
 have e:∀Q:Obj->ab->Prop,bf P (getObj l) h Q=match h l with
  | some x=>ab.mK x.obj=true/\x.obj.isChan=false/\bf P (pure x.obj:Sem Obj) h Q
  | none=>False:=fun Q=>by unfold getObj;rw [bf];rfl
 simp only [Instr.getLoop,aV,e,af,ab.mK,Obj.isChan,bh,true_and]
theorem JM{l:Nat}{L D3:Loop}{K:Unit->ab->Prop}(af:h l=some ⟨.loop L,true⟩):bf P (setObj l (.loop D3)) h K=K () (h.put l ⟨.loop D3,true⟩):=by
 have e:bf P (setObj l (.loop D3)) h K=match h l with
  | some x=>ab.mK x.obj=true/\(Obj.loop D3).isChan=false/\x.own=true/\bf P (pure ():Sem Unit) (h.put l ⟨.loop D3,true⟩) K
  | none=>False:=by unfold setObj;rw [bf];rfl
 rw [e,af];simp [ab.mK,Obj.isChan,bh]
theorem EM{l p:Nat}{L:Loop}{o:Bool}{v:Value}[K:KK Next](af:h l=some ⟨.loop L,o⟩)(aK:L.params=#[p]):
  au P (sm (.func (.yield l) #[] #[]) #[v]) h=K.f (.round l L.fn (L.tmps.setIfInBounds p v) L.assign L.body) h:=by
 have e1:sm (.func (.yield l) #[] #[]) #[v]=Instr.yield l #[v]:=rfl;simp only [au,e1,Instr.yield,aV,Er af,aK];simp [bh]
theorem JR{l:Nat}{L:Loop}{K:Unit->ab->Prop}(af:h l=some ⟨.loop L,true⟩)(hs:L.state=.ready):bf P (Instr.beginRound l) h K=K () (h.put l ⟨.loop {L with state:=.busy},true⟩):=by
 simp only [Instr.beginRound,aV,Er af,JM af,hs,bh]
theorem EN{l:Nat}{L:Loop}{K:Value->ab->Prop}(af:h l=some ⟨.loop L,true⟩):bf P (Instr.endRound l none) h K=K (.bool true) (h.put l ⟨.loop {L with state:=.ready,pending:=none},true⟩):=by
 simp only [Instr.endRound,aV,Er af,JM af,bh];rfl
theorem KP{l:Nat}{L:Loop}{K:Option Code->ab->Prop}(af:h l=some ⟨.loop L,true⟩)(hs:L.state=.ready):bf P (Instr.endLoop l) h K=K L.pending (h.put l ⟨.loop {L with state:=.exhausted},true⟩):=by
 have hb:(L.state==LoopState.busy)=false:=by rw [hs];rfl
 simp only [Instr.endLoop,aV,Er af,hb,Bool.false_eq_true,if_false,JM af,bh]
theorem J0{fn:FuncId}{tmps:Array Value}{params:Array Tmp}{gN body:Code}{K:Nat×List Deferred->ab->Prop}
  (u:∀r,h r=none->∀l,l≠r->h l=none->K (l,[{target:=.collected r,args:=#[]}]) ((h.put r ⟨.deferred (some []),true⟩).put l ⟨.loop {state:=.ready,pending:=none,fn,tmps,params,assign:=gN,body,defers:=r},true⟩)):
  bf P (Instr.enterLoop fn tmps params gN body none) h K:=by
 simp only [Instr.enterLoop,aV,qX,bh];intro r al l af;have b7:l≠r:=fun e=>by subst e;simp [ab.put] at af
 exact u r al l b7 (by simpa [ab.put,b7] using af)
end
section
variable{P:Program}{main:Bool}{ah:Type}{Sy:Sys ah}{b:bn}{d:List Deferred}{ops:Array Oper}{N:Env->List Deferred->ah->ab->Prop}
theorem ad8(he:nu 0 ops.toList=true)(lR:P.follows .mixedOrders=true)(aG:∀(i:Nat) (o:Oper),ops[i]? =some o->o.guard=none)
  (hd:∀(i j:Nat) (o aO:Oper) (t:Nat),ops[i]? =some o->ops[j]? =some aO->o.dst=some t->aO.dst=some t->i=j)
  (dm:Nat) (F:Bool->Nat->Value->ab->Prop) (Fm:∀c i v h h',h.aD h'->F c i v h->F c i v h') (Z:Bool->ah->Prop) {e0:Env} {bm:ah} {h0:ab} (R:ab->ab->Prop) (uV:∀h h',h0.aD h->R h h'->h0.aD h') (yC:∀i v h h',R h h'->F false i v h->F true i v h') (z0:Z false bm)
  (step:∀(i:Nat) (o:Oper),ops[i]? =some o->∀e s h,h0.aD h->(∀bt,(∀(j:Nat) (aO:Oper),ops[j]? =some aO->aO.dst≠some bt)->e bt=e0 bt)->
   ∀c,Z c s->(i=dm->c=false)->(∀x∈o.after,Region.binds .any x=true->∀aO bt,ops[x.on]? =some aO->aO.dst=some bt->F c x.on (e bt) h)->
   b3 P main Sy b o e d s h fun e' gE ai h'=>gE=d/\∃v,e'=cv e o.dst v/\(if i=dm then Z true ai/\R h h'/\F true i v h' else ai=s/\h.aD h'/\F c i v h'))
  (fin:∀e s h,h0.aD h->(∀bt,(∀(j:Nat) (aO:Oper),ops[j]? =some aO->aO.dst≠some bt)->e bt=e0 bt)->(∀(i:Nat) (o:Oper) (t:Nat),ops[i]? =some o->o.dst=some t->F (decide (dm<ops.size)) i (e t) h)->Z (decide (dm<ops.size)) s->N e d s h) (t:Nat):
  gk P main Sy b ops (Region.schedule (P.follows .mixedOrders) ops t) e0 d bm h0 N:=by
 unfold Region.schedule;rw [lR,Bool.true_or,if_pos rfl];refine y1 he (fun D e s h=>h0.aD h/\(∀bt,(∀(j:Nat) (aO:Oper),ops[j]? =some aO->aO.dst≠some bt)->e bt=e0 bt)/\(∀(i:Nat) (o:Oper) (t:Nat),ops[i]? =some o->o.dst=some t->D i=true->F (decide (dm<ops.size)&&D dm) i (e t) h)/\Z (decide (dm<ops.size)&&D dm) s)
  (fun D l5 e s h lZ ⟨an,az,aB,aX⟩=> ?_) (fun D e s h i o ⟨an,az,aB,aX⟩ hi iv aQ nY=> ?_) (fun D e s h ⟨an,az,aB,aX⟩ kn=> ?_) ⟨fun _ _ e=>e,fun _ _=>rfl,fun i o t _ _ du=>(Bool.false_ne_true du).elim,by simpa using z0⟩ t
 ·have e:(decide (dm<ops.size)&&D dm)=(decide (dm<ops.size)&&l5 dm):=by
   by_cases af:dm<ops.size
   ·rw [lZ dm af]
   ·simp [af]
  rw [<- e];exact ⟨an,az,fun i o t hi aj iv=>aB i o t hi aj (by rw [lZ i (Array.getElem?_eq_some_iff.1 hi).1];exact iv),aX⟩
 ·have hw:Region.wanted o (kH ops e)=true:=by simp [Region.wanted,aG i o aQ]
  rw [if_pos hw];have cj:=step i o aQ e s h an az (decide (dm<ops.size)&&D dm) aX (fun af=>by
   subst af;rw [iv,Bool.and_false]) (fun x aa hb aO bt c9 gh=>aB x.on aO bt c9 gh (nY x aa hb))
  refine EG (fun e' gE ai h' ⟨r1,v,r2,ih⟩=> ?_) (tk cj);subst r2;refine ⟨r1,?_⟩;have un:∀bt,(∀(j:Nat) (aO:Oper),ops[j]? =some aO->aO.dst≠some bt)->cv e o.dst v bt=e0 bt:=fun bt ao=>by
   cases aj:o.dst with
   | none=>exact az bt ao
   | some t=>
    rw [cM,aZ,if_neg (fun e'=>ao i o aQ (by rw [aj,e']))];exact az bt ao
  have uq:∀(j:Nat) (aO:Oper) (bt:Nat),j≠i->ops[j]? =some aO->aO.dst=some bt->cv e o.dst v bt=e bt:=fun j aO bt ec ae gh=>by
   cases aj:o.dst with
   | none=>rfl
   | some t=>rw [cM,aZ,if_neg (fun e'=>ec (hd j i aO o t ae aQ (by rw [gh,e']) aj))]
  by_cases af:i=dm
  ·subst af;simp only [if_true] at ih;obtain ⟨hr,z2,z3⟩:=ih;have e1:(decide (i<ops.size)&&D i)=false:=by rw [iv,Bool.and_false]
   rw [e1] at aB;simp only [if_true,hi,decide_true,Bool.and_true];refine ⟨uV _ _ an z2,un,fun j aO bt ae gh pJ=> ?_,hr⟩;by_cases ec:j=i
   ·subst ec;rw [aQ] at ae;cases ae;rw [gh,cM,aZ,if_pos rfl];exact z3
   ·simp only [if_neg ec] at pJ;rw [uq j aO bt ec ae gh];exact yC _ _ _ _ z2 (aB j aO bt ae gh pJ)
  ·simp only [if_neg af] at ih;obtain ⟨hr,z2,z3⟩:=ih;subst hr;simp only [if_neg (fun e=>af (Eq.symm e):¬dm=i)];refine ⟨fun b x hb=>z2 b x (an b x hb),un,fun j aO bt ae gh pJ=> ?_,aX⟩;by_cases ec:j=i
   ·subst ec;rw [aQ] at ae;cases ae;rw [gh,cM,aZ,if_pos rfl];exact z3
   ·simp only [if_neg ec] at pJ;rw [uq j aO bt ec ae gh];exact Fm _ _ _ _ _ z2 (aB j aO bt ae gh pJ)
 ·have e1:(decide (dm<ops.size)&&D dm)=decide (dm<ops.size):=by
   by_cases af:dm<ops.size
   ·rw [kn dm af,Bool.and_true]
   ·simp [af]
  rw [e1] at aB aX;exact fin e s h an az (fun i o t hi aj=>aB i o t hi aj (kn i (Array.getElem?_eq_some_iff.1 hi).1)) aX
end
def od:List Oper->Bool
 | []=>true
 | o::l=>o.guard.isNone&&(l.all fun aO=>aO.dst != o.dst||o.dst.isNone)&&od l
theorem zd:∀{l:List Oper},od l=true->∀{i:Nat} {o:Oper},l[i]? =some o->o.guard=none
 | [],_,i,o,hi=>by simp at hi
 | a::l,h,i,o,hi=>by
  simp only [od,Bool.and_eq_true] at h;cases i with
  | zero=>simp at hi;subst hi;exact Option.isNone_iff_eq_none.1 h.1.1
  | succ i=>exact zd h.2 (by simpa using hi)
theorem ze:∀{l:List Oper},od l=true->∀{i j:Nat} {o aO:Oper},l[i]? =some o->l[j]? =some aO->o.dst=aO.dst->o.dst≠none->i=j
 | [],_,i,j,o,aO,hi,_,_,_=>by simp at hi
 | a::l,h,i,j,o,aO,hi,ae,he,aH=>by
  simp only [od,Bool.and_eq_true] at h;cases i with
  | zero=>
   cases j with
   | zero=>rfl
   | succ j=>
    simp at hi ae;subst hi;have:=List.all_eq_true.1 h.1.2 aO (List.mem_of_getElem? ae);simp [he] at this;exact absurd (he.trans this) aH
  | succ i=>
   cases j with
   | zero=>
    simp at hi ae;subst ae;have:=List.all_eq_true.1 h.1.2 o (List.mem_of_getElem? hi);simp [he] at this;exact absurd (he.trans this) aH
   | succ j=>exact congrArg (· +1) (ze h.2 (by simpa using hi) (by simpa using ae) he aH)
section
variable{P:Program}{main:Bool}{ah:Type}{Sy:Sys ah}{b:bn}{d:List Deferred}{l:List Oper}{N:Env->List Deferred->ah->ab->Prop}
theorem EO(rB:od l=true)(he:nu 0 l=true)(lR:P.follows .mixedOrders=true)
  (dm:Nat) (F:Bool->Nat->Value->ab->Prop) (Fm:∀c i v h h',h.aD h'->F c i v h->F c i v h') (Z:Bool->ah->Prop) {e0:Env} {bm:ah} {h0:ab} (R:ab->ab->Prop) (uV:∀h h',h0.aD h->R h h'->h0.aD h') (yC:∀i v h h',R h h'->F false i v h->F true i v h') (z0:Z false bm)
  (step:∀(i:Nat) (o:Oper),l[i]? =some o->∀e s h,h0.aD h->(∀bt,l.all (fun aO=>aO.dst != some bt)=true->e bt=e0 bt)->∀c,Z c s->(i=dm->c=false)->
   (∀(j bt:Nat),(o.after.toList.any fun x=>x.on==j&&Region.binds .any x)=true->(l[j]?).bind (·.dst)=some bt->F c j (e bt) h)->
   b3 P main Sy b o e d s h fun e' gE ai h'=>gE=d/\∃v,e'=cv e o.dst v/\(if i=dm then Z true ai/\R h h'/\F true i v h' else ai=s/\h.aD h'/\F c i v h'))
  (fin:∀e s h,h0.aD h->(∀bt,l.all (fun aO=>aO.dst != some bt)=true->e bt=e0 bt)->(∀(i bt:Nat),(l[i]?).bind (·.dst)=some bt->F (decide (dm<l.length)) i (e bt) h)->Z (decide (dm<l.length)) s->N e d s h) (t:Nat):
  gk P main Sy b l.toArray (Region.schedule (P.follows .mixedOrders) l.toArray t) e0 d bm h0 N:=by
 have aH:l.toArray.size=l.length:=by simp
 have un:∀{bt},l.all (fun aO=>aO.dst != some bt)=true->∀(j:Nat) (aO:Oper),l.toArray[j]? =some aO->aO.dst≠some bt:=fun {bt} h j aO ae=>by
  have:=List.all_eq_true.1 h aO (List.mem_of_getElem? (by simpa using ae));simpa using this
 refine ad8 (ops:=l.toArray) he lR (fun i o hi=>zd rB (by simpa using hi)) (fun i j o aO t hi ae h1 h2=>ze rB (by simpa using hi) (by simpa using ae) (h1.trans h2.symm) (by rw [h1];simp)) dm F Fm Z R uV yC z0 ?_ ?_ t
 ·intro i o hi e s h an az c aB Qu aX;refine step i o (by simpa using hi) e s h an (fun bt h'=>az bt (un h')) c aB Qu fun j bt aa ae=> ?_;rw [List.any_eq_true] at aa;obtain ⟨x,hm,hb⟩:=aa;simp only [Bool.and_eq_true,beq_iff_eq] at hb;obtain ⟨rfl,hb⟩:=hb;obtain ⟨aO,c9,fo⟩:=Option.bind_eq_some_iff.1 ae;exact aX x (by simpa using hm) hb aO bt (by simpa using c9) fo
 ·intro e s h an az aB aX;rw [aH] at aB aX;refine fin e s h an (fun bt h'=>az bt (un h')) (fun i bt hi=> ?_) aX;obtain ⟨aO,c9,fo⟩:=Option.bind_eq_some_iff.1 hi;exact aB i aO bt (by simpa using c9) fo
end
section
variable{main:Bool}{ah:Type}{Sy:Sys ah}{s:ah}{h:ab}{b:bn}
theorem anS{a b:b6}(aA:a∈dv)(hb:b∈dv):rk (eH fl iF 30 62 [AO [a,b]] (gn [nB [a,b]]))=some (gO 0 [a,b]):=
 J9 (List.all_eq_true.1 (List.all_eq_true.1 avn a aA) b hb)
theorem V7{p k:Nat}{o:Bool}{a b:b6}(aA:a∈dv)(hb:b∈dv)(aK:hO h p k [a,b] o):
  bP Tryz.prog 62=true/\bI Tryz.prog main Sy 62 ⟨[.slice (some ⟨p,0,none⟩) 2 k]⟩ s h fun ai h' v=>ai=s/\h.aD h'/\v=.int .i64 (gO 0 [a,b]):=by
 have e:=anS aA hb;unfold rk at e;split at e
 ·rename_i n H' aa;cases e;obtain ⟨ck,q⟩:=ve (main:=main) (Sy:=Sy) (s:=s) (bs:=[(p,k)]) (h:=h) (args':=[.slice (some ⟨p,0,none⟩) 2 k]) aa rfl Is (fun i x b9 k' h1 h2=>by
    match i with
    | 0=>simp at h1 h2;obtain ⟨rfl,rfl⟩:=h2;subst h1;exact zn aK
    | i+1=>simp at h1)
   (.cons (by have:=bw.sl (ρ:=ia [(p,k)]) (c:=12) (b:=p) (k:=k) 0 2 dj rfl;rw [oJ] at this;exact this) .nil)
  exact ⟨ck,q.mono fun ai h' v ⟨e1,e2,bA,e3,e4,e5⟩=>⟨e1,e2,by cases e4;rfl⟩⟩
 ·cases e
def br(b:Nat):Value:=.pointer (some ⟨b,0,none⟩)
def mM(l:Nat):Value:=.func (.yield l) #[] #[]
def oK(ap bp yp np:Nat):Value:=.func (.func 141) #[] #[br ap,br bp,br yp,br np]
structure Ctx(h:ab)(ap bp yp np l:Nat)(bR:Int):Prop where
 a:∃o,h ap=some ⟨.cells #[.int .i64 bR] 3 (0,0),o⟩
 b:∃arr o x y m n,h bp=some ⟨.cells arr 119 (0,0),o⟩/\arr[0]? =some (.slice x 2 m)/\arr[1]? =some (.slice y 2 n)
 y:∃o,h yp=some ⟨.cells #[mM l] 264 (0,0),o⟩
 n:∃o,h np=some ⟨.cells #[oK ap bp yp np] 264 (0,0),o⟩
theorem Ctx.le{h h':ab}{ap bp yp np l:Nat}{bR:Int}(C:Ctx h ap bp yp np l bR)(le:h.aD h'):Ctx h' ap bp yp np l bR:=by
 obtain ⟨⟨o1,a⟩,⟨arr,o2,x,y,m,n,b,b9⟩,⟨pT,c⟩,⟨Be,d⟩⟩:=C;exact ⟨⟨o1,le _ _ a⟩,⟨arr,o2,x,y,m,n,le _ _ b,b9⟩,⟨pT,le _ _ c⟩,⟨Be,le _ _ d⟩⟩
theorem Oz:gq Tryz.prog 264=some none:=by kernel_rfl
theorem YW:gq Tryz.prog 23=some none:=by kernel_rfl
theorem asV:gq Tryz.prog 22=some none:=by kernel_rfl
theorem V8{m:Nat}[K:KK Value]:au Tryz.prog (Instr.fieldAt 119 (.pointer (some ⟨m,0,none⟩)) 0) h=K.f (.pointer (some ⟨m,0,none⟩)) h:=
 nq (ft:=25) (m:=3) (i:=0) Tryz.underlying119 rfl rfl (by kernel_rfl)
theorem anT{m:Nat}[K:KK Value]:au Tryz.prog (Instr.fieldAt 25 (.pointer (some ⟨m,0,none⟩)) 0) h=K.f (.pointer (some ⟨m,0,none⟩)) h:=
 nq (ft:=22) (m:=0) (i:=0) Tryz.underlying25 rfl rfl (by kernel_rfl)
theorem Xj{m:Nat}[K:KK Value]:au Tryz.prog (Instr.fieldAt 25 (.pointer (some ⟨m,0,none⟩)) 1) h=K.f (.pointer (some ⟨m,1,none⟩)) h:=
 nq (ft:=23) (m:=0) (i:=1) Tryz.underlying25 rfl rfl (by kernel_rfl)
theorem HD{a:Option Addr}{n c:Nat}[K:KK Value]:au Tryz.prog (Builtin.len_ #[58] 3 #[.slice a n c]) h=K.f (.int .i64 n) h:=u3 Tryz.underlying58
theorem YX{a:Option Addr}{n c:Nat}[K:KK Value]:au Tryz.prog (Builtin.len_ #[23] 3 #[.slice a n c]) h=K.f (.int .i64 n) h:=u3 Tryz.underlying23
theorem asW{a:Option Addr}{n c:Nat}[K:KK Value]:au Tryz.prog (Builtin.len_ #[22] 3 #[.slice a n c]) h=K.f (.int .i64 n) h:=u3 Tryz.underlying22
theorem Pm{e:Env}{d:List Deferred}{N:Env->List Deferred->ah->ab->Prop}{ap bp yp np l:Nat}{bR:Int}{p0 m0 k0:Nat}{Jq:Value}{n:Int}(Ix:Jq=.slice (some ⟨p0,0,none⟩) m0 k0)(e0:e 0=Jq)(e1:e 1=br ap)(C:Ctx h ap bp yp np l bR)
  (v7:∀h1,h.aD h1->bP Tryz.prog 62=true/\bI Tryz.prog main Sy 62 #[Jq] s h1 fun ai h' v=>ai=s/\h1.aD h'/\v=.int .i64 n)
  (k:∀e' h',h.aD h'->(∀t,t≠9->t≠10->t≠11->t≠12->e' t=e t)->e' 12=.bool (decide (n>bR))->N e' d s h') (t:Nat):
  gk Tryz.prog main Sy b zc.toArray (Region.schedule (Tryz.prog.follows .mixedOrders) zc.toArray t) e d s h N:=by
 refine EO (l:=zc) rfl rfl hR 1000 (fun c i v h=>match i with
   | 0=>v=Jq
   | 1=>v=.int .i64 n
   | 2=>v=.int .i64 bR
   | 3=>v=.bool (decide (n>bR))
   | _=>True) (fun c i v h h' _ q=>by match i with|0=>exact q|1=>exact q|2=>exact q|3=>exact q|i+4=>trivial)
  (fun _ ai=>ai=s) (fun h h'=>h.aD h') (fun h h' a b=>le_trans a b) (fun i v h h' _ q=>by match i with|0=>exact q|1=>exact q|2=>exact q|3=>exact q|i+4=>trivial) rfl ?_ ?_ t
 ·intro i o hi e' ai h1 bx un c dX _ pre;have dX:ai=s:=dX;subst dX;have x0:e' 0=.slice (some ⟨p0,0,none⟩) m0 k0:=by rw [un 0 rfl,e0,Ix]
  have sK:e' 1=br ap:=by rw [un 1 rfl,e1]
  match i,hi with
  | 0,hi=>
   cases hi;simp only [b3,gF,bc,undef,seval,x0];exact ⟨trivial,_,rfl,trivial,fun _ _ e=>e,Ix.symm⟩
  | 1,hi=>
   cases hi;have h9:e' 9=.slice (some ⟨p0,0,none⟩) m0 k0:=by rw [<- Ix];exact pre 0 9 rfl rfl
   simp only [b3,gF,bc,undef,seval,List.map_cons,List.map_nil,h9];obtain ⟨ck,q⟩:=v7 h1 bx;rw [Ix] at q;refine .inl ⟨ck,q.mono fun s2 h2 v ⟨r1,r2,r3⟩=> ?_⟩;exact ⟨rfl,_,rfl,r1,r2,r3⟩
  | 2,hi=>
   cases hi;obtain ⟨o1,aA⟩:=(C.le bx).a;simp only [b3,gF,bc,undef,seval,sK,br];rw [jN (K:=⟨_⟩) xZ (A:=⟨ap,0,none⟩) aA rfl rfl];exact ⟨rfl,_,rfl,rfl,fun _ _ e=>e,rfl⟩
  | 3,hi=>
   cases hi;have h10:e' 10=.int .i64 n:=pre 1 10 rfl rfl;have h11:e' 11=.int .i64 bR:=pre 2 11 rfl rfl;simp only [b3,gF,bc,undef,seval,h10,h11];exact ⟨trivial,_,rfl,trivial,fun _ _ e=>e,rfl⟩
  | i+4,hi=>simp [zc] at hi
 ·intro e' ai h1 bx un tc z;subst z;exact k e' h1 bx (fun t h1 h2 h3 h4=>un t (by simp [zc,Ne.symm h1,Ne.symm h2,Ne.symm h3,Ne.symm h4])) (tc 3 12 rfl)
def qd(main:Bool){ah:Type}(Sy:Sys ah)(l:Nat)(a b:b6)(s:ah)(h:ab)(Z:ah->Prop):Prop:=
 ∀h1 dc k',h.aD h1->h dc=none->hO h1 dc k' [a,b] true->
  ∃L o q,h1 l=some ⟨.loop L,o⟩/\L.params=#[q]/\kq Tryz.prog main Sy l L.fn (L.tmps.setIfInBounds q (.slice (some ⟨dc,0,none⟩) 2 k')) L.assign L.body s h1
   fun ai h' v=>Z ai/\(∀b x,b≠dc->h1 b=some x->h' b=some x)/\v=.bool true
theorem qd.le{l:Nat}{a b:b6}{h':ab}{Z:ah->Prop}(Y:qd main Sy l a b s h Z)(le:h.aD h'):qd main Sy l a b s h' Z:=fun h1 dc k' bx aP aE=>Y h1 dc k' (le_trans le bx) (by
 cases hh:h dc with
 | none=>rfl
 | some x=>rw [le _ _ hh] at aP;cases aP) aE
theorem asX{e:Env}{d:List Deferred}{N:Env->List Deferred->ah->ab->Prop}{ap bp yp np l p k:Nat}{bR:Int}{o:Bool}{x y:b6}{Z:ah->Prop}(e0:e 0=.slice (some ⟨p,0,none⟩) 2 k)(e3:e 3=br yp)(C:Ctx h ap bp yp np l bR)
  (aK:hO h p k [x,y] o) (Y:qd main Sy l x y s h Z)
  (fin:∀e' ai h',h.aD h'->Z ai->e' 6=.bool true->N e' d ai h') (t:Nat):
  gk Tryz.prog main Sy b zb.toArray (Region.schedule (Tryz.prog.follows .mixedOrders) zb.toArray t) e d s h N:=by
 refine EO (l:=zb) rfl rfl hR 3 (fun c i v h'=>match i with
   | 0=>v=mM l
   | 1=>v=.slice (some ⟨p,0,none⟩) 2 k
   | 2=>c=false->∃dc k',v=.slice (some ⟨dc,0,none⟩) 2 k'/\h dc=none/\hO h' dc k' [x,y] true
   | 3=>v=.bool true
   | 4=>v=.bool true
   | _=>True) (fun c i v h h' le q=>by
    match i with
    | 0=>exact q
    | 1=>exact q
    | 2=>exact fun hc=>by obtain ⟨dc,k',an,az,aB⟩:=q hc;exact ⟨dc,k',an,az,aB.le le⟩
    | 3=>exact q
    | 4=>exact q
    | i+5=>trivial)
  (fun c ai=>if c then Z ai else ai=s) (fun h1 h'=>∃dc,h dc=none/\∀b x,b≠dc->h1 b=some x->h' b=some x) (fun h1 h' a ⟨dc,an,az⟩ b x hb=>az b x (fun e=>by subst e;rw [an] at hb;cases hb) (a b x hb)) (fun i v h h' _ q=>by
    match i with
    | 0=>exact q
    | 1=>exact q
    | 2=>exact fun hc=>by cases hc
    | 3=>exact q
    | 4=>exact q
    | i+5=>trivial) rfl ?_ ?_ t
 ·intro i aO hi e' ai h1 bx un c dX af pre;have x0:e' 0=.slice (some ⟨p,0,none⟩) 2 k:=by rw [un 0 rfl,e0]
  have avP:e' 3=br yp:=by rw [un 3 rfl,e3]
  match i,hi with
  | 0,hi=>
   cases hi;obtain ⟨o1,aA⟩:=(C.le bx).y;simp only [b3,gF,bc,undef,seval,avP,br];rw [jN (K:=⟨_⟩) Oz (A:=⟨yp,0,none⟩) aA rfl rfl];exact ⟨rfl,_,rfl,rfl,fun _ _ e=>e,rfl⟩
  | 1,hi=>
   cases hi;simp only [b3,gF,bc,undef,seval,x0];exact ⟨trivial,_,rfl,trivial,fun _ _ e=>e,rfl⟩
  | 2,hi=>
   cases hi;have h21:e' 21=.slice (some ⟨p,0,none⟩) 2 k:=pre 1 21 rfl rfl;simp only [b3,gF,bc,undef,seval,List.map_cons,List.map_nil,h21];obtain ⟨ck,q⟩:=akt (main:=main) (Sy:=Sy) (s:=ai) (aK.le bx);refine .inl ⟨ck,q.mono fun s2 h2 v ⟨r1,r2,dc,k',r3,gI,ih⟩=> ?_⟩;refine ⟨rfl,_,rfl,r1,r2,fun _=>⟨dc,k',r3,?_,gI⟩⟩;cases hh:h dc with
   | none=>rfl
   | some x=>rw [bx _ _ hh] at ih;cases ih
  | 3,hi=>
   cases hi;have hc:=af rfl;subst hc;have dX:ai=s:=dX;subst dX;have h20:e' 20=mM l:=pre 0 20 rfl rfl;obtain ⟨dc,k',h22,aP,aE⟩:=(show false=false->∃dc k',e' 22=.slice (some ⟨dc,0,none⟩) 2 k'/\h dc=none/\hO h1 dc k' [x,y] true from pre 2 22 rfl rfl) rfl;obtain ⟨L,o1,q,o4,sL,yD⟩:=Y h1 dc k' bx aP aE;simp only [b3,gF,bc,undef,seval,List.map_cons,List.map_nil,h20,h22,mM];rw [EM (K:=⟨_⟩) o4 sL];refine kq.mono (fun s2 h2 v ⟨r1,r2,r3⟩=> ?_) yD;exact ⟨rfl,_,rfl,r1,⟨dc,aP,r2⟩,r3⟩
  | 4,hi=>
   cases hi;have h23:e' 23=.bool true:=pre 3 23 rfl rfl;simp only [b3,gF,bc,undef,seval,h23];exact ⟨trivial,_,rfl,trivial,fun _ _ e=>e,rfl⟩
  | i+5,hi=>simp [zb] at hi
 ·intro e' ai h1 bx un tc z;exact fin e' ai h1 bx (by simpa [zb] using z) (tc 4 6 rfl)
theorem call141:bP Tryz.prog 141=true:=by kernel_rfl
theorem afU{ap bp yp np l p k:Nat}{bR:Int}{o:Bool}{x y:b6}{Z:ah->Prop}(aa:x∈dv)(ax:y∈dv)(C:Ctx h ap bp yp np l bR)(aK:hO h p k [x,y] o)(v7:gO 0 [x,y]<=bR)(Y:qd main Sy l x y s h Z):
  bI Tryz.prog main Sy 141 #[.slice (some ⟨p,0,none⟩) 2 k,br ap,br bp,br yp,br np] s h fun ai h' v=>Z ai/\h.aD h'/\v=.bool true:=by
 refine cc (n:=50) (args:=[.slice (some ⟨p,0,none⟩) 2 k,br ap,br bp,br yp,br np]) Tryz.func141 Kd rfl (by simp) Lq ?_;simp only [bc,undef,seval,KL,KJ,Kc,Kb];intro t;refine Pm (p0:=p) (m0:=2) (k0:=k) (bR:=bR) (l:=l) rfl (by simp [aZ,dE]) (by simp [aZ,dE]) C (fun h1 bx=>V7 aa ax (aK.le bx)) (fun e1 h1 bx sK v8=> ?_) t;have hd:decide (gO 0 [x,y]>bR)=false:=by simp;omega
 rw [hd] at v8;have u0:e1 0=.slice (some ⟨p,0,none⟩) 2 k:=by rw [sK 0 (by decide) (by decide) (by decide) (by decide)];simp [aZ,dE]
 have fi:e1 2=br bp:=by rw [sK 2 (by decide) (by decide) (by decide) (by decide)];simp [aZ,dE]
 have jk:e1 3=br yp:=by rw [sK 3 (by decide) (by decide) (by decide) (by decide)];simp [aZ,dE]
 obtain ⟨arr,o2,oA,kB,fx,db,hb,iL,jc⟩:=(C.le bx).b;have rS:∀(b:bn) (K:ah->ab->Value->Prop),@fa Tryz.prog main _ Sy b 23 (.pointer (some ⟨bp,1,none⟩)) s h1 ⟨K⟩=K s h1 (.slice kB 2 db):=fun b K=>jN (K:=⟨K⟩) YW (A:=⟨bp,1,none⟩) hb rfl jc;simp only [bc,undef,seval,Ka,UC,TH,TG,ae6,ae5,v8,u0,fi,br,HD,V8,Xj,rS,YX];intro t2;refine asX (ap:=ap) (bp:=bp) (np:=np) (bR:=bR) (by simp [aZ,u0]) (by simp [aZ,jk]) (C.le bx) (aK.le bx) (Y.le bx) (fun e2 s2 h2 bM z2 ta=> ?_) t2;simp only [bc,undef,seval];refine bT Tryz.results141 (by simp) ?_;exact ⟨z2,le_trans bx bM,ta⟩
end
end
end Go.Nk
