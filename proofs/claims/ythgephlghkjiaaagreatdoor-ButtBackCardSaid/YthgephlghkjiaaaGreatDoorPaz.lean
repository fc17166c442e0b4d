/- Part Paz of the proof of ButtBack: lemmas. -/
import Derived.Test.YthgephlghkjiaaaGreatDoorPay
set_option maxRecDepth 100000
set_option maxHeartbeats 4000000
set_option linter.all false
namespace Go.Nk
noncomputable section
open Go Go.Conc Go.Proofs
structure Acc where
 b:ej
 g:Ground
 nm:Bool
 last:Int
def Acc.step(a:Acc):dD->Acc
 | .jK x y=>⟨⟨a.b.cI,a.b.cO,x,y⟩,a.g,a.nm,1⟩
 | .kO ns=>⟨{a.b with cI:=a.b.cI++[ns]},a.g,a.nm,2⟩
 | .kG bF=>⟨{a.b with cO:=a.b.cO++[bF]},a.g,a.nm,3⟩
 | .ground=>⟨a.b,a.g,true,4⟩
 | .lP s=>⟨a.b,{a.g with dT:=a.g.dT++[s]},a.nm,5⟩
 | .lI s=>⟨a.b,{a.g with ei:=a.g.ei++[s]},a.nm,6⟩
def rn:Acc:=⟨⟨[],[],0,0⟩,⟨[],[]⟩,false,0⟩
def hS(ls:List dD):Acc:=ls.foldl Acc.step rn
theorem Uj{ls:List dD}{l:dD}:hS (ls++[l])=(hS ls).step l:=by simp [hS]
theorem agS{a:Acc}{l:dD}:(a.step l).last=Hl l:=by cases l<;>rfl
structure Hp(txt:List UInt8)(ls:List dD):Prop where
 len:txt.length<=80000
 n:ls.length<=100
 same:(pieces txt).length=ls.length
 pc:∀(k:Nat) p l,(pieces txt)[k]? =some p->ls[k]? =some l->p=l.text++[10]\/p=l.text
 ok:∀l∈ls,l.cu
 abj:∀(k:Nat) l,ls[k]? =some l->jb l (hS (ls.take k)).last=true
theorem Vv(ls:List dD):∀k,(hS (ls.take k)).b.cI.length<=k/\(hS (ls.take k)).b.cO.length<=k/\(hS (ls.take k)).g.dT.length<=k/\(hS (ls.take k)).g.ei.length<=k
 | 0=>by simp [hS,rn]
 | k+1=>by
  have aN:=Vv ls k;rcases Nat.lt_or_ge k ls.length with hk|hk
  ·have e:ls.take (k+1)=ls.take k++[ls[k]]:=by rw [List.take_add_one];simp [hk]
   rw [e,Uj];generalize hS (ls.take k)=a at aN ⊢;cases ls[k]<;>simp [Acc.step]<;>omega
  ·have e:ls.take (k+1)=ls.take k:=by rw [List.take_of_length_le (by omega),List.take_of_length_le (by omega)]
   rw [e];omega
theorem EE:∀{l:List UInt8} {p:List UInt8},p∈pieces l->p.length<=l.length
 | [],p,h=>by simp [pieces] at h
 | x::l,p,h=>by
  rw [pieces] at h;by_cases aa:(x==10)=true
  ·rw [if_pos aa] at h;rcases List.mem_cons.1 h with q|q
   ·rw [q];simp
   ·have:=EE q;simp;omega
  ·rw [if_neg aa] at h;cases aE:pieces l with
   | nil=>rw [aE] at h;simp at h;rw [h];simp
   | cons q aBJ=>
    rw [aE] at h;rcases List.mem_cons.1 h with e|e
    ·have:=EE (l:=l) (p:=q) (by rw [aE];simp);rw [e];simp;omega
    ·have:=EE (l:=l) (p:=p) (by rw [aE];simp [e]);simp;omega
theorem agT{t p:List UInt8}(h:p=t++[10]\/p=t)(ao:∀x∈t,(x==10)=false):(if px p [10] then p.take (p.length- [(10:UInt8)].length) else p)=t:=by
 rcases h with rfl|rfl
 ·have:px (t++[10]) [10]=true:=by simp [px]
  rw [this];simp
 ·have:px p [10]=false:=by
   cases aE:px p [10] with
   | false=>rfl
   | true=>
    simp only [px,Bool.and_eq_true,decide_eq_true_eq,beq_iff_eq] at aE;have hm:(10:UInt8)∈p:=List.mem_of_mem_drop (i:=p.length- [(10:UInt8)].length) (by rw [aE.2];simp);have:=ao _ hm;simp at this
  rw [this];rfl
theorem fZ{h:ab}{a b:Nat}{p dc:Array Value}{q j6:Nat}{f pR:Nat×Nat}{w w':Bool}{z:eI}(aA:h a=some ⟨.cells p q f,w⟩)(hb:h b=some ⟨.cells dc j6 pR,w'⟩)(aE:q≠j6):(h.put b z) a=some ⟨.cells p q f,w⟩:=by
 rw [cG (fun e=>by rw [e,hb] at aA;cases aA;exact aE rfl)];exact aA
theorem hI.out{h0 h h':ab}{B M:List Nat}{bW sv ee eg:Value}{x:ej}{y:Ground}{r:Nat}(q:hI h0 h B M bW sv ee eg x y)(al:r∈B)(k:∀b z,b≠r->h b=some z->h' b=some z)(aY:∀d∈M,h0 d=none):∃eM:ab,eM.aD h'/\(∀d,(h0 d).isSome=true->eM d=none)/\(zg eM bW x.cI/\zK eM sv x.cO)/\KU eM ee y.dT/\Kr eM eg y.ei:=by
 have axo:=q.sub r al;obtain ⟨dM,vs,us,av,gT,ij,gU,dJ,ao,an,az,aB,aX,cp,fw⟩:=q;let eM:ab:=fun b=>if (h0 b).isSome=true then none else h' b
 have p1:eM.aD h':=fun b z aH=>by
  simp only [eM] at aH;split at aH
  ·cases aH
  ·exact aH
 have lm:(bB h0 M h).aD eM:=fun b z aH=>by
  unfold bB at aH;by_cases e:b∈M\/(h0 b).isSome=true
  ·rw [if_pos e] at aH;cases aH
  ·rw [if_neg e] at aH;simp only [eM];rw [if_neg (fun q=>e (.inr q))];exact k b z (fun e2=>e (.inl (by rw [e2];exact axo))) aH
 have c7:∀b z,b∉B->b∈M->h b=some z->eM b=some z:=fun b z hb hm aH=>by
  simp only [eM];rw [if_neg (by rw [aY b hm];simp)];exact k b z (fun e=>hb (by rw [e];exact al)) aH
 have azL:∀b,av=some b->b∈M:=fun b e=>by rw [dJ,e];simp
 have azM:∀b,gT=some b->b∈M:=fun b e=>by rw [dJ,e];simp
 have azN:∀b,ij=some b->b∈M:=fun b e=>by rw [dJ,e];simp
 have azO:∀b,gU=some b->b∈M:=fun b e=>by rw [dJ,e];simp
 exact ⟨eM,p1,fun d hd=>by simp only [eM];rw [if_pos hd],⟨⟨vs,(an.keep fun b z hb aH=>c7 b z (ao b (.inl hb)) (azL b hb) aH).at,cp.imp fun _ _ r=>dx.le lm r⟩,us,(az.keep fun b z hb aH=>c7 b z (ao b (.inr (.inl hb))) (azM b hb) aH).at,fw.imp fun _ _ r=>dx.le lm r⟩,(aB.keep fun b z hb aH=>c7 b z (ao b (.inr (.inr (.inl hb)))) (azN b hb) aH).at,(aX.keep fun b z hb aH=>c7 b z (ao b (.inr (.inr (.inr hb)))) (azO b hb) aH).at⟩
section
variable{P:Program}{fn:Func}{ah:Type}{n:Nat}{gS:ah->ab->Value->Prop}{e:Env}{s:ah}{h:ab}
theorem ajL{a b c d Ef Eg acz acA:Nat}{pa pb pc pd:Nat}{yN Eh qS acB:Value}(al:fn.results=#[.cell a Ef,.cell b Eg,.cell c acz,.cell d acA])(aA:a<n)(hb:b<n)(hc:c<n)(hd:d<n)(lx:e a=bL pa 0)(pS:e b=bL pb 0)(rU:e c=bL pc 0)(ma:e d=bL pd 0)
  (la:∀Q:Value->ab->Prop,bf P (loadVar Ef ⟨pa,0,none⟩) h Q=Q yN h) (rS:∀Q:Value->ab->Prop,bf P (loadVar Eg ⟨pb,0,none⟩) h Q=Q Eh h) (lc:∀Q:Value->ab->Prop,bf P (loadVar acz ⟨pc,0,none⟩) h Q=Q qS h) (ld:∀Q:Value->ab->Prop,bf P (loadVar acA ⟨pd,0,none⟩) h Q=Q acB h)
  (p:gS s h (.tuple #[yN,Eh,qS,acB])):er P fn gS n e [] s h:=by
 simp only [er,kF,results,al];simp [aV,bh,aA,hb,hc,hd,lx,pS,rU,ma,asAddr,map_eq_pure_bind,la,rS,lc,ld,-map_pure,-bind_pure_comp];exact p
theorem ajM{a b c d Ef Eg:Nat}{pa pb:Nat}{yN Eh:Value}(al:fn.results=#[.cell a Ef,.cell b Eg,.tmp c,.tmp d])(aA:a<n)(hb:b<n)(hc:c<n)(hd:d<n)(lx:e a=bL pa 0)(pS:e b=bL pb 0)
  (la:∀Q:Value->ab->Prop,bf P (loadVar Ef ⟨pa,0,none⟩) h Q=Q yN h) (rS:∀Q:Value->ab->Prop,bf P (loadVar Eg ⟨pb,0,none⟩) h Q=Q Eh h)
  (p:gS s h (.tuple #[yN,Eh,e c,e d])):er P fn gS n e [] s h:=by
 simp only [er,kF,results,al];simp [aV,bh,aA,hb,hc,hd,lx,pS,asAddr,map_eq_pure_bind,la,rS,-map_pure,-bind_pure_comp];exact p
end
structure hp(h0 hb h:ab)(B X:List Nat)(c2 c3 c4 c5 c6 dC:Nat)(a:Acc)(at_:Int)(M:List Nat)(bW sv ee eg:Value):Prop where
 q:hI h0 h B M bW sv ee eg a.b a.g
 sl:(∃a n c,bW=.slice a n c)/\(∃a n c,sv=.slice a n c)/\(∃a n c,ee=.slice a n c)/\∃a n c,eg=.slice a n c
 g2:h c2=some ⟨.cells #[bW,sv,.int .i64 a.b.fN,.int .i64 a.b.fH] 25 (0,0),true⟩
 g3:h c3=some ⟨.cells #[ee,eg] 29 (0,0),true⟩
 g4:h c4=some ⟨.cells #[.bool a.nm] 4 (0,0),true⟩
 g5:h c5=some ⟨.cells #[.nilIface] 91 (0,0),true⟩
 g6:h c6=some ⟨.cells #[.int .i64 at_] 3 (0,0),true⟩
 g7:h dC=some ⟨.cells #[.int .i64 a.last] 3 (0,0),true⟩
 aY:∀d∈M,h0 d=none
 le:h0.aD h
 c7:∀d∈X,h d=hb d
 st:c6≠dC/\(∀d∈[c2,c3,c4,c5,c6,dC],d∈B/\d∉X)/\∀d∈X,d∈B
section
variable{h0 hb h h':ab}{B X:List Nat}{c2 c3 c4 c5 c6 dC:Nat}{a:Acc}{at_:Int}{M:List Nat}{bW sv ee eg:Value}
theorem hp.up(q:hp h0 hb h B X c2 c3 c4 c5 c6 dC a at_ M bW sv ee eg)(l:h.aD h'):hp h0 hb h' B X c2 c3 c4 c5 c6 dC a at_ M bW sv ee eg:=
 ⟨q.q.le l,q.sl,l _ _ q.g2,l _ _ q.g3,l _ _ q.g4,l _ _ q.g5,l _ _ q.g6,l _ _ q.g7,q.aY,q.le.aU l,fun d hd=>by
  obtain ⟨z,aH⟩:=q.q.dM d (q.st.2.2 d hd);rw [<- q.c7 d hd,aH];exact l _ _ aH,q.st⟩
theorem hp.base(q:hp h0 hb h B X c2 c3 c4 c5 c6 dC a at_ M bW sv ee eg){c:Nat}(hc:c∈[c2,c3,c4,c5,c6,dC])(z:eI):hI h0 (h.put c z) B M bW sv ee eg a.b a.g/\h0.aD (h.put c z)/\∀d∈X,(h.put c z) d=hb d:=by
 obtain ⟨dM,qP⟩:=q.st.2.1 c hc;refine ⟨q.q.put dM,fun d w hd=> ?_,fun d hd=> ?_⟩
 ·rw [cG (fun e=>by subst e;rw [q.aY _ (q.q.sub _ dM)] at hd;cases hd)];exact q.le _ _ hd
 ·rw [cG (fun e=>by subst e;exact qP hd)];exact q.c7 d hd
theorem hp.aue(q:hp h0 hb h B X c2 c3 c4 c5 c6 dC a at_ M bW sv ee eg){v:Int}:hp h0 hb (h.put c6 ⟨.cells #[.int .i64 v] 3 (0,0),true⟩) B X c2 c3 c4 c5 c6 dC a v M bW sv ee eg:=by
 obtain ⟨cl,bV,dz⟩:=q.base (c:=c6) (by simp) ⟨.cells #[.int .i64 v] 3 (0,0),true⟩;exact ⟨cl,q.sl,fZ q.g2 q.g6 (by decide),fZ q.g3 q.g6 (by decide),fZ q.g4 q.g6 (by decide),fZ q.g5 q.g6 (by decide),dd,by rw [cG (Ne.symm q.st.1)];exact q.g7,q.aY,bV,dz,q.st⟩
theorem hp.auf(q:hp h0 hb h B X c2 c3 c4 c5 c6 dC a at_ M bW sv ee eg){v:Int}:hp h0 hb (h.put dC ⟨.cells #[.int .i64 v] 3 (0,0),true⟩) B X c2 c3 c4 c5 c6 dC {a with last:=v} at_ M bW sv ee eg:=by
 obtain ⟨cl,bV,dz⟩:=q.base (c:=dC) (by simp) ⟨.cells #[.int .i64 v] 3 (0,0),true⟩;exact ⟨cl,q.sl,fZ q.g2 q.g7 (by decide),fZ q.g3 q.g7 (by decide),fZ q.g4 q.g7 (by decide),fZ q.g5 q.g7 (by decide),by rw [cG q.st.1];exact q.g6,dd,q.aY,bV,dz,q.st⟩
theorem hp.aug(q:hp h0 hb h B X c2 c3 c4 c5 c6 dC a at_ M bW sv ee eg){v:Bool}:hp h0 hb (h.put c4 ⟨.cells #[.bool v] 4 (0,0),true⟩) B X c2 c3 c4 c5 c6 dC {a with nm:=v} at_ M bW sv ee eg:=by
 obtain ⟨cl,bV,dz⟩:=q.base (c:=c4) (by simp) ⟨.cells #[.bool v] 4 (0,0),true⟩;exact ⟨cl,q.sl,fZ q.g2 q.g4 (by decide),fZ q.g3 q.g4 (by decide),dd,fZ q.g5 q.g4 (by decide),fZ q.g6 q.g4 (by decide),fZ q.g7 q.g4 (by decide),q.aY,bV,dz,q.st⟩
theorem hp.auh(q:hp h0 hb h B X c2 c3 c4 c5 c6 dC a at_ M bW sv ee eg){x y:Int}:hp h0 hb (h.put c2 ⟨.cells #[bW,sv,.int .i64 x,.int .i64 y] 25 (0,0),true⟩) B X c2 c3 c4 c5 c6 dC {a with b:=⟨a.b.cI,a.b.cO,x,y⟩} at_ M bW sv ee eg:=by
 obtain ⟨cl,bV,dz⟩:=q.base (c:=c2) (by simp) ⟨.cells #[bW,sv,.int .i64 x,.int .i64 y] 25 (0,0),true⟩;exact ⟨cl.jK rfl rfl,q.sl,dd,fZ q.g3 q.g2 (by decide),fZ q.g4 q.g2 (by decide),fZ q.g5 q.g2 (by decide),fZ q.g6 q.g2 (by decide),fZ q.g7 q.g2 (by decide),q.aY,bV,dz,q.st⟩
theorem hp.oa(q:hp h0 hb h B X c2 c3 c4 c5 c6 dC a at_ M bW sv ee eg){c:Nat}(hc:c∈X)(z:eI):hp h0 (h.put c z) (h.put c z) B X c2 c3 c4 c5 c6 dC a at_ M bW sv ee eg:=by
 have eT:∀d∈[c2,c3,c4,c5,c6,dC],d≠c:=fun d hd e=>(q.st.2.1 d hd).2 (by rw [e];exact hc);have dM:=q.st.2.2 c hc;exact ⟨q.q.put dM,q.sl,by rw [cG (eT _ (by simp))];exact q.g2,by rw [cG (eT _ (by simp))];exact q.g3,by rw [cG (eT _ (by simp))];exact q.g4,by rw [cG (eT _ (by simp))];exact q.g5,by rw [cG (eT _ (by simp))];exact q.g6,by rw [cG (eT _ (by simp))];exact q.g7,q.aY,fun d w hd=>by rw [cG (fun e=>by subst e;rw [q.aY _ (q.q.sub _ dM)] at hd;cases hd)];exact q.le _ _ hd,fun _ _=>rfl,q.st⟩
theorem hp.app(q:hp h0 hb h B X c2 c3 c4 c5 c6 dC a at_ M bW sv ee eg){gZ:List Nat}(out:∀d z,d∉M->h d=some z->h' d=some z)(eb:∀d,d∈gZ->d∈M\/h d=none)(hN:∀d∈B,h' d=h d):
  h' c2=h c2/\h' c3=h c3/\h' c4=h c4/\h' c5=h c5/\h' c6=h c6/\h' dC=h dC/\(∀d∈gZ,h0 d=none)/\h0.aD h'/\∀d∈X,h' d=hb d:=by
 have kc:∀c∈[c2,c3,c4,c5,c6,dC],h' c=h c:=fun c hc=>hN c (q.st.2.1 c hc).1;refine ⟨kc _ (by simp),kc _ (by simp),kc _ (by simp),kc _ (by simp),kc _ (by simp),kc _ (by simp),fun d hd=> ?_,fun d z hd=> ?_,fun d hd=>by rw [hN d (q.st.2.2 d hd)];exact q.c7 d hd⟩
 ·rcases eb d hd with r|r
  ·exact q.aY d r
  ·exact jq q.le r
 ·exact out d z (fun r=>by rw [q.aY d r] at hd;cases hd) (q.le _ _ hd)
theorem hp.Zo(q:hp h0 hb h B X c2 c3 c4 c5 c6 dC a at_ M bW sv ee eg){gZ:List Nat}{mo ou:Value}{x':ej}(fX:hI h0 h' B gZ mo ou ee eg x' a.g)(sl:(∃a n c,mo=.slice a n c)/\∃a n c,ou=.slice a n c)(aa:x'.fN=a.b.fN/\x'.fH=a.b.fH)
  (out:∀d z,d∉M->h d=some z->h' d=some z) (eb:∀d,d∈gZ->d∈M\/h d=none) (hN:∀d∈B,h' d=h d):
  hp h0 hb (h'.put c2 ⟨.cells #[mo,ou,.int .i64 a.b.fN,.int .i64 a.b.fH] 25 (0,0),true⟩) B X c2 c3 c4 c5 c6 dC {a with b:=x'} at_ gZ mo ou ee eg:=by
 obtain ⟨e2,e3,e4,e5,e6,e7,aY,le,c7⟩:=q.app out eb hN;obtain ⟨x6,Rh⟩:=q.st.2.1 c2 (by simp);have nK:h' c2=some ⟨.cells #[bW,sv,.int .i64 a.b.fN,.int .i64 a.b.fH] 25 (0,0),true⟩:=e2.trans q.g2;have rK:=e3.trans q.g3;have Ri:=e4.trans q.g4;have Rj:=e5.trans q.g5;have Rk:=e6.trans q.g6;have Rl:=e7.trans q.g7;refine ⟨fX.put x6,⟨sl.1,sl.2,q.sl.2.2⟩,?_,fZ rK nK (by decide),fZ Ri nK (by decide),fZ Rj nK (by decide),fZ Rk nK (by decide),fZ Rl nK (by decide),aY,fun d w hd=> ?_,fun d hd=> ?_,q.st⟩
 ·rw [dd,aa.1,aa.2]
 ·rw [cG (fun e=>by subst e;rw [q.aY _ (q.q.sub _ x6)] at hd;cases hd)];exact le _ _ hd
 ·rw [cG (fun e=>by subst e;exact Rh hd)];exact c7 d hd
theorem hp.Zp(q:hp h0 hb h B X c2 c3 c4 c5 c6 dC a at_ M bW sv ee eg){gZ:List Nat}{nL nM:Value}{c8:Ground}(fX:hI h0 h' B gZ bW sv nL nM a.b c8)(sl:(∃a n c,nL=.slice a n c)/\∃a n c,nM=.slice a n c)
  (out:∀d z,d∉M->h d=some z->h' d=some z) (eb:∀d,d∈gZ->d∈M\/h d=none) (hN:∀d∈B,h' d=h d):
  hp h0 hb (h'.put c3 ⟨.cells #[nL,nM] 29 (0,0),true⟩) B X c2 c3 c4 c5 c6 dC {a with g:=c8} at_ gZ bW sv nL nM:=by
 obtain ⟨e2,e3,e4,e5,e6,e7,aY,le,c7⟩:=q.app out eb hN;obtain ⟨x6,Rh⟩:=q.st.2.1 c3 (by simp);have nK:=e2.trans q.g2;have rK:=e3.trans q.g3;have Ri:=e4.trans q.g4;have Rj:=e5.trans q.g5;have Rk:=e6.trans q.g6;have Rl:=e7.trans q.g7;exact ⟨fX.put x6,⟨q.sl.1,q.sl.2.1,sl.1,sl.2⟩,fZ nK rK (by decide),dd,fZ Ri rK (by decide),fZ Rj rK (by decide),fZ Rk rK (by decide),fZ Rl rK (by decide),aY,fun d w hd=>by rw [cG (fun e=>by subst e;rw [q.aY _ (q.q.sub _ x6)] at hd;cases hd)];exact le _ _ hd,fun d hd=>by rw [cG (fun e=>by subst e;exact Rh hd)];exact c7 d hd,q.st⟩
end
section
variable{main:Bool}{ah:Type}{S:Sys ah}{s:ah}{h:ab}
theorem call41:bP Tryz.prog 41=true:=by kernel_rfl
theorem apg{txt:List UInt8}{ls:List dD}(T:Hp txt ls)(h5:oQ h):bI Tryz.prog main S 41 #[aW txt] s h fun ai h' z=>ai=s/\h.aD h'/\∃bv rV eM,z=.tuple #[bv,rV,.bool (hS ls).nm,.nilIface]/\eM.aD h'/\(∀d,(h d).isSome=true->eM d=none)/\mh eM bv (hS ls).b/\lG eM rV (hS ls).g:=by
 refine cc (args:=[aW txt]) Tryz.func41 (by delta Tryz.f41;rfl) Tryz.ntmps41 (by simp) (by kernel_rfl) ?_;simp only [ad,seval];intro c2 h2 cN e2 c3 h3 ed e3 c4 h4 l1 e4 c5 h6 gG e5 c6 h7 nd e6 dC h8 sY e7;have bM:=cS cN e2;have bK:=cS ed e3;have cd:=cS l1 e4;have ey:=cS gG e5;have dY:=cS nd e6;have ff:=cS sY e7;have g6:=ff _ _ (cq e6);simp only [ad,seval,g6];intro h9 cH;have I7:dC≠c6:=fun e=>by rw [e,cq e6] at sY;cases sY
 have g7:h9 dC=some ⟨.cells #[.int .i64 0] 3 (0,0),true⟩:=by rw [cH,cG I7];exact cq e7
 simp only [ad,seval,g7];intro h10 de;have PE:h7.aD h8:=ff;have uX:h10 c2=some ⟨.cells #[.slice none 0 0,.slice none 0 0,.int .i64 0,.int .i64 0] 25 (0,0),true⟩:=by
  have a:=ff _ _ (dY _ _ (ey _ _ (cd _ _ (bK _ _ (cq e2)))));rw [de];refine fZ ?_ g7 (by decide);rw [cH];exact fZ a g6 (by decide)
 have R8:h10 c3=some ⟨.cells #[.slice none 0 0,.slice none 0 0] 29 (0,0),true⟩:=by
  have a:=ff _ _ (dY _ _ (ey _ _ (cd _ _ (cq e3))));rw [de];refine fZ ?_ g7 (by decide);rw [cH];exact fZ a g6 (by decide)
 have R9:h10 c4=some ⟨.cells #[.bool false] 4 (0,0),true⟩:=by
  have a:=ff _ _ (dY _ _ (ey _ _ (cq e4)));rw [de];refine fZ ?_ g7 (by decide);rw [cH];exact fZ a g6 (by decide)
 have Sa:h10 c5=some ⟨.cells #[.nilIface] 91 (0,0),true⟩:=by
  have a:=ff _ _ (dY _ _ (cq e5));rw [de];refine fZ ?_ g7 (by decide);rw [cH];exact fZ a g6 (by decide)
 have Sb:h10 c6=some ⟨.cells #[.int .i64 0] 3 (0,0),true⟩:=by rw [de,cG (Ne.symm I7),cH,dd]
 have Sc:h10 dC=some ⟨.cells #[.int .i64 0] 3 (0,0),true⟩:=by rw [de,dd]
 have abk:h.aD h8:=bM.aU (bK.aU (cd.aU (ey.aU (dY.aU ff))));have acC:h c3=none:=jq bM ed;have acD:h c4=none:=jq (bM.aU bK) l1;have acE:h c5=none:=jq (bM.aU (bK.aU cd)) gG;have Sd:h c6=none:=jq (bM.aU (bK.aU (cd.aU ey))) nd;have wJ:h dC=none:=jq (bM.aU (bK.aU (cd.aU (ey.aU dY)))) sY;have A1:h.aD h10:=fq (fq abk Sd cH) wJ de;clear e2 e3 e4 e5 e6 e7 cH de g6 g7 bM bK cd ey dY ff PE abk ed l1 gG nd sY;refine c0 call73 amO fun Rm h11 z ⟨an,c1,fe,hA,aB⟩=> ?_;subst an;subst aB;have ir:=cS fe hA;have wD:=cq hA;clear hA;simp only [ad,seval];refine JY (x:=#[]) (y:=#[bL c1 0]) call111 rfl (by simp) (by simp [ak,aS]) ?_;refine J0 fun r al l qK af=> ?_;generalize hF:({state:=.ready,pending:=none,fn:=41,tmps:=_,params:=#[19],assign:=_,body:=_,defers:=r}:Loop)=L;generalize jm:(upd _ 18 _:Env)=e' at hF ⊢;have te:L.state=.ready:=by rw [<- hF]
 have wG:L.pending=none:=by rw [<- hF]
 have D8:L.fn=41:=by rw [<- hF]
 have D9:L.params=#[19]:=by rw [<- hF]
 have Bj:=(congrArg Loop.assign hF).symm;have Bl:=(congrArg Loop.body hF).symm;dsimp only at Bj Bl;have Bm:iH 99 ⟨L.tmps,[]⟩ (k8 99 e'):=by rw [<- hF];exact Wt
 have fi:k8 99 e' 2=bL c2 0:=by rw [<- jm];simp [k8,ak]
 have jk:k8 99 e' 3=bL c3 0:=by rw [<- jm];simp [k8,ak]
 have pU:k8 99 e' 4=bL c4 0:=by rw [<- jm];simp [k8,ak]
 have R3:k8 99 e' 5=bL c5 0:=by rw [<- jm];simp [k8,ak]
 have Jw:k8 99 e' 6=bL c6 0:=by rw [<- jm];simp [k8,ak]
 have Se:k8 99 e' 7=bL dC 0:=by rw [<- jm];simp [k8,ak]
 have v2:e' 2=bL c2 0:=by rw [<- jm];simp [ak]
 have v3:e' 3=bL c3 0:=by rw [<- jm];simp [ak]
 have v4:e' 4=bL c4 0:=by rw [<- jm];simp [ak]
 have v5:e' 5=bL c5 0:=by rw [<- jm];simp [ak]
 clear hF jm;generalize k8 99 e'=cR at Bm fi jk pU R3 Jw Se;have sB:(h11.put r ⟨.deferred (some []),true⟩) l=none:=by rw [cG qK];exact af
 have I8:h11.aD ((h11.put r ⟨.deferred (some []),true⟩).put l ⟨.loop L,true⟩):=(hf al).aU (hf sB);generalize o7:(h11.put r ⟨.deferred (some []),true⟩).put l ⟨.loop L,true⟩=h12 at I8 ⊢;have pW:h12 l=some ⟨.loop L,true⟩:=by rw [<- o7,dd]
 have wH:h12 r=some ⟨.deferred (some []),true⟩:=by rw [<- o7,cG (Ne.symm qK),dd]
 clear o7;have uY:=ir.aU I8;have yF:=uY _ _ uX;have Sf:=uY _ _ R8;have Sg:=uY _ _ R9;have Si:=uY _ _ Sa;have Sj:=uY _ _ Sb;have Sk:=uY _ _ Sc;have yA:=I8 _ _ wD;have nl:∀{c x},h11 c=some x->c≠l:=fun {c x} aa e=>by rw [e,af] at aa;cases aa
 have nr:∀{c x},h11 c=some x->c≠r:=fun {c x} aa e=>by rw [e,al] at aa;cases aa
 have db:∀{c x},h10 c=some x->c≠c1:=fun {c x} aa e=>by rw [e,fe] at aa;cases aa
 let B:=[c2,c3,c4,c5,c6,dC,c1,l,r];let X:=[c1,l,r];have abl:c6≠dC/\(∀d∈[c2,c3,c4,c5,c6,dC],d∈B/\d∉X)/\∀d∈X,d∈B:=by
  refine ⟨Ne.symm I7,fun d hd=> ?_,fun d hd=> ?_⟩
  ·have aa:∃x,h10 d=some x:=by
    simp only [List.mem_cons,List.not_mem_nil,or_false] at hd;rcases hd with rfl|rfl|rfl|rfl|rfl|rfl
    ·exact ⟨_,uX⟩
    ·exact ⟨_,R8⟩
    ·exact ⟨_,R9⟩
    ·exact ⟨_,Sa⟩
    ·exact ⟨_,Sb⟩
    ·exact ⟨_,Sc⟩
   obtain ⟨x,aa⟩:=aa;refine ⟨?_,fun q=> ?_⟩
   ·simp only [B,List.mem_cons,List.not_mem_nil,or_false] at hd ⊢;rcases hd with q|q|q|q|q|q<;>simp [q]
   ·simp only [X,List.mem_cons,List.not_mem_nil,or_false] at q;rcases q with q|q|q
    ·exact db aa q
    ·exact nl (ir _ _ aa) q
    ·exact nr (ir _ _ aa) q
  ·simp only [B,X,List.mem_cons,List.not_mem_nil,or_false] at hd ⊢;rcases hd with q|q|q<;>simp [q]
 have abm:∀d∈B,∃z,h12 d=some z:=by
  intro d hd;simp only [B,List.mem_cons,List.not_mem_nil,or_false] at hd;rcases hd with rfl|rfl|rfl|rfl|rfl|rfl|rfl|rfl|rfl
  ·exact ⟨_,yF⟩
  ·exact ⟨_,Sf⟩
  ·exact ⟨_,Sg⟩
  ·exact ⟨_,Si⟩
  ·exact ⟨_,Sj⟩
  ·exact ⟨_,Sk⟩
  ·exact ⟨_,yA⟩
  ·exact ⟨_,pW⟩
  ·exact ⟨_,wH⟩
 have abn:∀d∈B,h d=none:=by
  intro d hd;simp only [B,List.mem_cons,List.not_mem_nil,or_false] at hd;rcases hd with rfl|rfl|rfl|rfl|rfl|rfl|rfl|rfl|rfl
  ·assumption
  ·exact acC
  ·exact acD
  ·exact acE
  ·exact Sd
  ·exact wJ
  ·exact jq A1 fe
  ·exact jq (A1.aU ir) af
  ·exact jq (A1.aU ir) al
 have uV:hp h h12 h12 B X c2 c3 c4 c5 c6 dC rn 0 B (.slice none 0 0) (.slice none 0 0) (.slice none 0 0) (.slice none 0 0):=
  ⟨hI.start abm,⟨⟨_,_,_,rfl⟩,⟨_,_,_,rfl⟩,⟨_,_,_,rfl⟩,⟨_,_,_,rfl⟩⟩,yF,Sf,Sg,Si,Sj,Sk,abn,A1.aU uY,fun _ _=>rfl,abl⟩
 have Rn:=h5.le (A1.aU uY);have uZ:c1∈X/\l∈X/\r∈X:=by simp [X]
 have Ro:l≠r:=qK;have Rp:l≠c1:=fun e=>nl wD e.symm;have axp:r≠c1:=fun e=>nr wD e.symm
 clear_value B X
 clear abm abn abl yF Sf Sg Si Sj Sk nl nr db af al sB uX R8 R9 Sa Sb Sc acC acD acE Sd wJ fe I7 A1 ir I8 uY wD qK;let Z:Nat->ab->Prop:=fun k aa=>k<=ls.length/\aa l=some ⟨.loop L,true⟩/\aa r=some ⟨.deferred (some []),true⟩/\(∃x,aa c1=some x)/\∃M bW sv ee eg,hp h aa aa B X c2 c3 c4 c5 c6 dC (hS (ls.take k)) k M bW sv ee eg;refine bI.mono (fun ai h' v q=> ?_) (amP (main:=main) (S:=S) (s:=Rm) (h:=h12) (l:=l) (c1:=c1) (p:=19) (L:=L) (txt:=txt) (Z:=Z) D9 (fun k aa q=>q.2.1) (fun k aa x y ⟨z0,hr,z2,z3,M,bW,sv,ee,eg,z4⟩ g=>⟨z0,by rw [cG Rp];exact hr,by rw [cG axp];exact z2,⟨_,dd⟩,M,bW,sv,ee,eg,z4.oa uZ.1 y⟩) (fun k pc s aa x I9 D7 uo=> ?_) ⟨by omega,pW,wH,⟨_,yA⟩,B,_,_,_,_,uV⟩ yA (by have:=T.len;omega))
 ·obtain ⟨fA,an,az,aB,aX,M,bW,sv,ee,eg,R⟩:=q;subst fA;rw [T.same,List.take_length] at R;rw [KP az te];refine ⟨wG,?_⟩;have lD:=R.oa uZ.2.1 ⟨.loop {L with state:=.exhausted},true⟩;have DO:(h'.put l ⟨.loop {L with state:=.exhausted},true⟩) r=some ⟨.deferred (some []),true⟩:=by rw [cG (Ne.symm Ro)];exact aB
  generalize h'.put l ⟨.loop {L with state:=.exhausted},true⟩=h14 at lD DO;clear R az aB aX an;generalize hS ls=a at lD;obtain ⟨⟨a1,db,k1,rfl⟩,⟨a2,dB,bX,rfl⟩,⟨a3,n3,eL,rfl⟩,⟨a4,n4,e8,rfl⟩⟩:=lD.sl;have g2:=lD.g2;have g3:=lD.g3;have g4:=lD.g4;have g5:=lD.g5;simp only [ad,seval,kJ];intro t;refine ED (c:=true) (C:=fun _=>True) (xl:=[]) hR (by kernel_rfl) (by kernel_rfl) (by kernel_rfl) (by kernel_rfl) (.inl rfl) trivial ?_ t
  repeat first|refine vq rfl rfl (fun h1=>by simp only [ad,seval,et,v2,v3,v4,v5,g2,g3,g4,g5];exact rfl) ?_|refine vr rfl rfl (by simp only [ad,seval,et,v2,v3,v4,v5,g2,g3,g4,g5];exact rfl) ?_
  refine zv trivial (by simp only [ad,seval,n1,v2,g2];intro h1 e;rw [e];exact ps g2) ?_;refine zv trivial (by simp only [ad,seval,n1,v3,g3];intro h1 e;rw [e];exact ps g3) ?_;refine zv trivial (by simp only [ad,seval,n1,v4,g4];intro h1 e;rw [e];exact ps g4) ?_;refine zv trivial (by simp only [ad,seval,n1,v5,g5];intro h1 e;rw [e];exact ps g5) ?_;rw [GI];simp only [ad,seval];show kF Tryz.prog [{target:=.collected r,args:=#[]}] _ _;rw [kF];refine JG DO fun h16 A2=>⟨rfl,?_⟩;have abo:=lD.st.2.2 r uZ.2.2;have Ja:∀d∈[c2,c3,c4,c5,c6,dC],d≠r:=fun d hd e=>(lD.st.2.1 d hd).2 (by rw [e];exact uZ.2.2);obtain ⟨eM,p1,ti,⟨o1,o2⟩,pT,Be⟩:=lD.q.out abo A2 lD.aY;refine (show er Tryz.prog Tryz.f41 (fun (s1:ah) h' z=>s1=ai/\h.aD h'/\∃bv rV eM,z=.tuple #[bv,rV,.bool a.nm,.nilIface]/\eM.aD h'/\(∀d,(h d).isSome=true->eM d=none)/\mh eM bv a.b/\lG eM rV a.g) 99 (upd (upd (upd e' 96 _) 97 _) 98 _) [] ai h16 from ?_);refine ajL (P:=Tryz.prog) (fn:=Tryz.f41) (n:=99) Tryz.results41 (by omega) (by omega) (by omega) (by omega) (pa:=c2) (pb:=c3) (pc:=c4) (pd:=c5) (by simp [ak,v2]) (by simp [ak,v3]) (by simp [ak,v4]) (by simp [ak,v5])
   (Aq (by kernel_rfl) (A2 _ _ (Ja _ (by simp)) g2) rfl) (Aq (by kernel_rfl) (A2 _ _ (Ja _ (by simp)) g3) rfl) (Zi (by kernel_rfl) (A2 _ _ (Ja _ (by simp)) g4) rfl) (Zi (by kernel_rfl) (A2 _ _ (Ja _ (by simp)) g5) rfl) ?_
  refine ⟨rfl,fun d z hd=>A2 _ _ (fun e=> ?_) (lD.le _ _ hd),_,_,eM,rfl,p1,ti,⟨_,_,rfl,o1,o2⟩,⟨_,_,rfl,pT,Be⟩⟩;rw [e,lD.aY r (lD.q.sub r abo)] at hd;cases hd
 ·obtain ⟨z0,hr,z2,z3,M,bW,sv,ee,eg,R⟩:=D7;have hk:k<ls.length:=by rw [<- T.same];exact (List.getElem?_eq_some_iff.1 I9).1
  have nb:ls[k]? =some ls[k]:=List.getElem?_eq_getElem hk;have Zq:hS (ls.take (k+1))=(hS (ls.take k)).step ls[k]:=by
   rw [<- Uj];congr 1;rw [List.take_add_one];simp [hk]
  have cW:=T.ok _ (List.getElem_mem hk);have Zr:=T.abj k _ nb;have OZ:=T.pc k pc _ I9 nb;have sQ:=Vv ls k;have ZZ:k<=100:=by have:=T.n;omega
  have rE:pc.length<=80000:=Nat.le_trans (EE (List.mem_of_getElem? I9)) T.len;have abp:∀h',h' l=some ⟨.loop L,true⟩->h' r=some ⟨.deferred (some []),true⟩->(∃x,h' c1=some x)->(∃M bW sv ee eg,hp h h' h' B X c2 c3 c4 c5 c6 dC ((hS (ls.take k)).step ls[k]) (k+1:Nat) M bW sv ee eg)->Z (k+1) h':=fun h' a b c d=>⟨hk,a,b,c,by rw [Zq];exact d⟩;clear I9 nb Zq z0;generalize ls[k]=pV at*
  generalize hS (ls.take k)=a at*
  rw [D8,Bj,Bl];have azP:=r7 (dst:=some 19) Bm (by decide) (aW pc);refine JZ (n:=99) (e:=upd cR 19 (aW pc)) azP (by kernel_rfl) (by kernel_rfl) ?_;simp only [ad,seval];rw [JR hr te];have lD:=R.oa uZ.2.1 ⟨.loop {L with state:=.busy},true⟩;have abq:(aa.put l ⟨.loop {L with state:=.busy},true⟩) l=some ⟨.loop {L with state:=.busy},true⟩:=dd;have DO:(aa.put l ⟨.loop {L with state:=.busy},true⟩) r=some ⟨.deferred (some []),true⟩:=by rw [cG (Ne.symm Ro)];exact z2
  have abr:(aa.put l ⟨.loop {L with state:=.busy},true⟩) c1=some x:=by rw [cG (Ne.symm Rp)];exact uo
  generalize pS:aa.put l ⟨.loop {L with state:=.busy},true⟩=hb at lD abq DO abr ⊢;clear pS R hr z2 z3 uo;have g6:=lD.g6;have g7:=lD.g7;simp only [ad,seval,Jw,g6];intro h2 e2;have w1:IntKind.i64.wrap ((k:Int)+1)=((k+1:Nat):Int):=by rw [dw (by omega) (by omega)];omega
  rw [w1] at e2;have Bo:=lD.aue (v:=((k+1:Nat):Int));rw [<- e2] at Bo;clear e2 g6 g7 lD;refine eQ call75 (atP pc [10] (by omega) _ _) ?_;rw [agT OZ cW.HT];simp only [ad,seval];have abt:pV.text.length<=90000:=by
   rcases OZ with e|e
   ·rw [e,List.length_append] at rE;omega
   ·rw [e] at rE;omega
  refine c0 call74 (ajJ cW abt (h5.le Bo.le)) fun fQ h3 z ⟨an,bK,t,v,aB,aX,cp⟩=> ?_;subst an;subst aB;have Sl:=Bo.up bK;have g7:=Sl.g7;have Jb:∀(A:Addr) n c,v=.agg #[.slice (some A) n c]->A.block∉M/\h A.block=none:=fun A n c e=>by
   have f:=cp A t n c (by rw [e]);refine ⟨fun hm=> ?_,jq Bo.le f⟩;obtain ⟨z,aH⟩:=Bo.q.lt _ hm;rw [aH] at f;cases f
  clear Bo cp bK;simp only [ad,seval,fG,tR,Se,g7];refine c0 call76 (agR aX) fun eW h4 z ⟨an,cd,aB⟩=> ?_;subst an;subst aB;have acF:=Sl.up cd;have aX:=aX.le cd;clear Sl cd g7;rw [Zr];simp only [ad,seval];obtain ⟨aY,aBK,hi,abu⟩:=apb (main:=main) (S:=S) (s:=eW) (h:=h4) aX;refine B4 (v:=.iface t v) (by simp [ak,aS]) hi rfl (abu.mono fun jl axq z ⟨an,ey,aB⟩=> ?_);subst an;subst aB;have Ei:=acF.up ey;have aX:=aX.le ey;have g7:=Ei.g7;clear acF ey hi abu;simp only [ad,seval,Se,g7];intro h6 e6;have nn:=Ei.auf (v:=(Hl pV:Int));rw [<- e6] at nn;have em:bB h M h6=bB h M axq:=by rw [e6];exact Od (Ei.q.sub dC (Ei.st.2.1 dC (by simp)).1)
  clear e6 g7 Ei;have fin:∀eM gZ mo ou nL nM,hp h hb eM B X c2 c3 c4 c5 c6 dC (a.step pV) (k+1:Nat) gZ mo ou nL nM->bf Tryz.prog (Instr.endRound l none) eM fun v h'=>v=.bool true/\Z (k+1) h'/\h' c1=some x:=by
   intro eM gZ mo ou nL nM k3;have axr:eM l=some ⟨.loop {L with state:=.busy},true⟩:=by rw [k3.c7 l uZ.2.1];exact abq
   rw [EN axr];have hF:({({L with state:=.busy}:Loop) with state:=.ready,pending:=none}:Loop)=L:=by
    cases L;simp only at te wG;subst te;subst wG;rfl
   rw [hF];have abv:(eM.put l ⟨.loop L,true⟩) c1=some x:=by rw [cG (Ne.symm Rp),k3.c7 c1 uZ.1];exact abr
   exact ⟨rfl,abp _ dd (by rw [cG (Ne.symm Ro),k3.c7 r uZ.2.2];exact DO) ⟨_,abv⟩ ⟨gZ,mo,ou,nL,nM,k3.oa uZ.2.1 _⟩,abv⟩
  clear OZ rE abt Zr abp;obtain ⟨⟨a1,db,k1,rfl⟩,⟨a2,dB,bX,rfl⟩,⟨a3,n3,eL,rfl⟩,⟨a4,n4,e8,rfl⟩⟩:=nn.sl;have g2:=nn.g2;have g3:=nn.g3;have g4:=nn.g4;cases pV with
  | jK tb Rq=>
   cases aX;simp only [ad,seval,qm,fG,b4];intro sO h7 mY e7;have g11:=cq e7;simp only [ad,seval,g11];intro h8 cH;have rp:=cq cH;have k4:=nn.up (fq (cS mY e7) mY cH);have g2:=k4.g2;clear e7 cH nn g11 g3 g4;simp only [ad,seval,kJ];intro t;refine ED (c:=false) (C:=fun h=>h sO=some ⟨.cells #[.int .i64 tb,.int .i64 Rq] 159 (0,0),true⟩) (xl:=[48,50]) hR (by kernel_rfl) (by kernel_rfl) (by kernel_rfl) (by kernel_rfl) (.inr (by kernel_rfl)) rp ?_ t
   repeat first|refine vq rfl rfl (fun h1=>by simp only [ad,seval,et,fi];exact rfl) ?_|refine vr rfl rfl (by simp only [ad,seval,et,fi];exact rfl) ?_
   refine Yz rfl rfl (fun h1 g=>by simp only [ad,seval,et,true_and,g];exact rfl) ?_
   repeat first|refine vq rfl rfl (fun h1=>by simp only [ad,seval,et,fi];exact rfl) ?_|refine vr rfl rfl (by simp only [ad,seval,et,fi];exact rfl) ?_
   refine Yz rfl rfl (fun h1 g=>by simp only [ad,seval,et,true_and,g];exact rfl) ?_
   repeat first|refine vq rfl rfl (fun h1=>by simp only [ad,seval,et,fi];exact rfl) ?_|refine vr rfl rfl (by simp only [ad,seval,et,fi];exact rfl) ?_
   refine Oc (h':=h8.put c2 ⟨.cells #[.slice a1 db k1,.slice a2 dB bX,.int .i64 tb,.int .i64 a.b.fH] 25 (0,0),true⟩) (fZ rp g2 (by decide)) (by simp only [ad,seval,n1,fi,g2];exact fun _ e=>e) ?_
   repeat first|refine vq rfl rfl (fun h1=>by simp only [ad,seval,et,fi];exact rfl) ?_|refine vr rfl rfl (by simp only [ad,seval,et,fi];exact rfl) ?_
   refine Oc (h':=h8.put c2 ⟨.cells #[.slice a1 db k1,.slice a2 dB bX,.int .i64 tb,.int .i64 Rq] 25 (0,0),true⟩) (fZ rp g2 (by decide)) (by simp only [ad,seval,n1,fi,y0,qc];exact fun _ e=>e) ?_;rw [GI];have k3:=k4.auh (x:=tb) (y:=Rq);simp only [ad,seval];exact fin _ _ _ _ _ _ k3
  | kO ns=>
   obtain ⟨yN,azQ,qS,aS,oD⟩:=aX;cases aS;have oD:=Ho oD fun A e=>Jb A _ _ (by rw [e]);rw [<- em] at oD;have oD:=dx.le YA oD;simp only [ad,seval,qm,Ch,fG];intro sO h7 mY e7;have g11:=cq e7;simp only [ad,seval,g11];intro h8 cH;have rp:=cq cH;have fS:=fq (cS mY e7) mY cH;have k4:=nn.up fS;have g2:=k4.g2;have DQ:=dx.le fS oD;clear e7 cH nn g11 g3 g4 oD fS;simp only [ad,seval,fi,g2,rp];refine apc fun Df h9 rl de=> ?_;have kg:=k4.up (cS rl de);have g13:=cq de;have Rr:=dx.le (cS rl de) DQ;clear k4 g2 de DQ;simp only [ad,seval];refine aua kg.q (show a.b.cI.length<=150 by have:=sQ.1;omega) Rr (fun A e=>Jb A _ _ (by rw [e])) (by rw [pj g13];rfl) fun mo h10 gZ fX out eb hN yq=> ?_;obtain ⟨cl,bV,dz,rfl⟩:=yq;have g2:h10 c2=_:=(hN c2 (kg.st.2.1 c2 (by simp)).1).trans kg.g2;simp only [ad,seval,fi,g2];intro h12 nN;have k3:=kg.Zo fX ⟨⟨_,_,_,rfl⟩,kg.sl.2.1⟩ ⟨rfl,rfl⟩ out eb hN;rw [<- nN] at k3;exact fin _ _ _ _ _ _ k3
  | kG bF=>
   obtain ⟨yN,azQ,qS,aS,oD⟩:=aX;cases aS;have oD:=Ho oD fun A e=>Jb A _ _ (by rw [e]);rw [<- em] at oD;have oD:=dx.le YA oD;simp only [ad,seval,qm,Ch,Hn,fG];intro sO h7 mY e7;have g11:=cq e7;simp only [ad,seval,g11];intro h8 cH;have rp:=cq cH;have fS:=fq (cS mY e7) mY cH;have k4:=nn.up fS;have g2:=k4.g2;have DQ:=dx.le fS oD;clear e7 cH nn g11 g3 g4 oD fS;simp only [ad,seval,fi,g2,rp];refine apd fun Df h9 rl de=> ?_;have kg:=k4.up (cS rl de);have g13:=cq de;have Rr:=dx.le (cS rl de) DQ;clear k4 g2 de DQ;simp only [ad,seval];refine aub kg.q (show a.b.cO.length<=150 by have:=sQ.2.1;omega) Rr (fun A e=>Jb A _ _ (by rw [e])) (by rw [pj g13];rfl) fun ou h10 gZ fX out eb hN yq=> ?_;obtain ⟨cl,bV,dz,rfl⟩:=yq;have g2:h10 c2=_:=(hN c2 (kg.st.2.1 c2 (by simp)).1).trans kg.g2;simp only [ad,seval,fi,g2];intro h12 nN;have k3:=kg.Zo fX ⟨kg.sl.1,⟨_,_,_,rfl⟩⟩ ⟨rfl,rfl⟩ out eb hN;rw [<- nN] at k3;exact fin _ _ _ _ _ _ k3
  | ground=>
   cases aX;simp only [ad,seval,qm,Ch,Hn,vp,fG,f165];intro sO h7 mY e7;have g11:=cq e7;simp only [ad,seval,g11,f165];intro h8 cH;have k4:=nn.up (fq (cS mY e7) mY cH);have g4:=k4.g4;clear e7 cH nn g11;simp only [ad,seval,pU,g4];intro h9 de;have k3:=k4.aug (v:=true);rw [<- de] at k3;exact fin _ _ _ _ _ _ k3
  | lP w=>
   cases aX;simp only [ad,seval,qm,Ch,Hn,vp,Aa,fG,iB.v,b4];intro sO h7 mY e7;have g11:=cq e7;simp only [ad,seval,g11];intro h8 cH;have rp:=cq cH;have k4:=nn.up (fq (cS mY e7) mY cH);have g3:=k4.g3;clear e7 cH nn g11 g2 g4;simp only [ad,seval,jk,g3,rp];refine ape (w:=w) fun Df h9 rl de=> ?_;have kg:=k4.up (cS rl de);have g13:=cq de;clear k4 g3 de;simp only [ad,seval];refine auc kg.q (show a.g.dT.length<=150 by have:=sQ.2.2.1;omega) (w:=w) (by rw [pj g13];rfl) fun nL h10 gZ fX out eb hN yq=> ?_;obtain ⟨cl,bV,dz,rfl⟩:=yq;have g3:h10 c3=_:=(hN c3 (kg.st.2.1 c3 (by simp)).1).trans kg.g3;simp only [ad,seval,jk,g3];intro h12 nN;have k3:=kg.Zp fX ⟨⟨_,_,_,rfl⟩,kg.sl.2.2.2⟩ out eb hN;rw [<- nN] at k3;exact fin _ _ _ _ _ _ k3
  | lI w=>
   cases aX;simp only [ad,seval,qm,Ch,Hn,vp,Aa,Ci,fG,je.v,b4];intro sO h7 mY e7;have g11:=cq e7;simp only [ad,seval,g11];intro h8 cH;have rp:=cq cH;have k4:=nn.up (fq (cS mY e7) mY cH);have g3:=k4.g3;clear e7 cH nn g11 g2 g4;simp only [ad,seval,jk,g3,rp];refine apf (w:=w) fun Df h9 rl de=> ?_;have kg:=k4.up (cS rl de);have g13:=cq de;clear k4 g3 de;simp only [ad,seval];refine aud kg.q (show a.g.ei.length<=150 by have:=sQ.2.2.2;omega) (w:=w) (by rw [pj g13];rfl) fun nM h10 gZ fX out eb hN yq=> ?_;obtain ⟨cl,bV,dz,rfl⟩:=yq;have g3:h10 c3=_:=(hN c3 (kg.st.2.1 c3 (by simp)).1).trans kg.g3;simp only [ad,seval,jk,g3];intro h12 nN;have k3:=kg.Zp fX ⟨kg.sl.2.2.1,⟨_,_,_,rfl⟩⟩ out eb hN;rw [<- nN] at k3;exact fin _ _ _ _ _ _ k3
end
theorem ej.cu.fits{x:ej}(q:x.cu):x.fits:=⟨fun l af=>by have:=(q.tP l af).1;omega,fun l af=>by have:=(q.load l af).1;omega⟩
theorem Fc{l:List UInt8}(q:js l=true):l.length<=12:=by
 simp only [js,Bool.and_eq_true,decide_eq_true_eq] at q;omega
theorem Ground.cu.fits{y:Ground}(q:y.cu):y.fits:=⟨fun s hs=>by
 have:=q.st.1 s hs;simp only [k9,Bool.and_eq_true] at this;have:=Fc this.1;omega,fun s hs=>by
 have:=q.yH.1 s hs;simp only [ko,Bool.and_eq_true] at this;have:=Fc this.1;omega⟩
section
variable{main:Bool}{ah:Type}{S:Sys ah}{s:ah}{h:ab}
theorem r4{h h':ab}{a b:Nat}{p dc:Array Value}{q j6:Nat}{f pR:Nat×Nat}{w w':Bool}{z:eI}(e:h'=h.put b z)(aA:h a=some ⟨.cells p q f,w⟩)(hb:h b=some ⟨.cells dc j6 pR,w'⟩)(aE:q≠j6):h' a=some ⟨.cells p q f,w⟩:=by rw [e];exact fZ aA hb aE
theorem call10:bP Tryz.prog 10=true:=by kernel_rfl
theorem arU{a:Option Addr}[K:KK Value]:au Tryz.prog (Instr.makeInterface 106 (.pointer a)) h=K.f (.iface 106 (.pointer a)) h:=by kernel_rfl
theorem dx.form{v:Value}{bo:Nat}{rows:List (List Value)}(q:dx h v bo rows):∃a n c,v=.slice a n c:=by
 obtain ⟨b,o,n,c,e,_⟩:=q;exact ⟨_,_,_,e⟩
theorem WL{txt:List UInt8}{ls:List dD}(T:Hp txt ls)(af:txt.length<=60000)(hw:(hS ls).nm=true)(fj:(hS ls).b.cu)(Jt:(hS ls).g.cu)(h5:oQ h)(aj:tQ h):
  bI Tryz.prog main S 10 #[aW txt] s h fun ai h' z=>ai=s/\h.aD h'/\∃bv rV eM,z=.tuple #[bv,rV,.int .i64 0,.int .i64 0]/\eM.aD h'/\(∀d,(h d).isSome=true->eM d=none)/\mh eM bv (hS ls).b/\lG eM rV (hS ls).g:=by
 refine cc (args:=[aW txt]) Tryz.func10 (by delta Tryz.f10;rfl) Tryz.ntmps10 (by simp) (by kernel_rfl) ?_;simp only [ad,seval];intro c2 h2 cN e2 c3 h3 ed e3;have bM:=cS cN e2;have bK:=cS ed e3;have g2:=bK _ _ (cq e2);have g3:=cq e3;have aal:c3≠c2:=fun e=>by rw [e,cq e2] at ed;cases ed
 have f3:h c3=none:=jq bM ed;clear e2 e3;simp only [ad,seval,ha,decide_eq_false (show ¬((txt.length:Nat):Int)>60000 by omega)];refine c0 call41 (apg T (h5.le (bM.aU bK))) fun eW h4 z ⟨an,cd,bv,rV,eM,aB,p1,ti,pZ,Sm⟩=> ?_;subst an;subst aB;rw [hw];generalize hS ls=a at*
 obtain ⟨v1,v2,rfl,kB,pf⟩:=id pZ;obtain ⟨w1,w2,rfl,y3,y4⟩:=id Sm;obtain ⟨_,f1,_⟩:=id kB;obtain ⟨_,f2,_⟩:=id pf;obtain ⟨cl,fx,k1,rfl⟩:=f1.form;obtain ⟨bV,fW,bX,rfl⟩:=f2.form;obtain ⟨dz,jj,eL,rfl⟩:=y3.form;obtain ⟨hD,acG,e8,rfl⟩:=y4.form;have nK:=cd _ _ g2;have rK:=cd _ _ g3;simp only [ad,seval,fG,b4,nK,rK];intro h6 e6;have pI:=r4 e6 rK nK (by decide);have rJ:=cq e6;have dY:=fq (bM.aU (bK.aU cd)) cN e6;simp only [ad,seval,pI];intro h7 e7;have D5:=cq e7;have Bf:=r4 e7 rJ pI (by decide);have ff:=fq dY f3 e7;have Sn:eM.aD h7:=fq (fq p1 (ti c2 (by rw [g2];rfl)) e6) (ti c3 (by rw [g3];rfl)) e7;have axs:∀d,(h d).isSome=true->eM d=none:=fun d hd=>by
  obtain ⟨z,aH⟩:=Option.isSome_iff_exists.1 hd;exact ti d (by rw [bK _ _ (bM _ _ aH)];rfl)
 have axt:=pZ.le Sn;have axu:=Sm.le Sn;clear e6 e7 pI rJ nK rK dY kB pf y3 y4 f1 f2 cd g2 g3;intro eN h8 ot cH;have fS:=cS ot cH;clear cH;simp only [ad,seval,arU];refine c0 call42 (at2 ⟨_,_,rfl⟩) fun mI h9 z ⟨an,az,aB⟩=> ?_;subst an;subst az;subst aB;have i2:=fS _ _ Bf;have i3:=fS _ _ D5;simp only [ad,seval,i2];refine c0 call32 (SX (axt.le fS) fj.fits (aj.le (ff.aU fS))) fun axv h10 z ⟨an,ir,f,aB,aX⟩=> ?_;subst an;subst aB;rw [aX.2 fj];have i2:=ir _ _ i2;have i3:=ir _ _ i3;simp only [ad,seval,show ((0:Int)==0)=true from rfl,i3];refine c0 call33 (SC (axu.le (fS.aU ir)) Jt.fits (aj.le (ff.aU (fS.aU ir)))) fun Rm h11 z ⟨an,mX,f2,aB,cp⟩=> ?_;subst an;subst aB;rw [cp.2 Jt];have i2:=mX _ _ i2;have i3:=mX _ _ i3;simp only [ad,seval,show ((0:Int) != 0)=false from rfl,kJ];intro t;refine ED (c:=true) (C:=fun _=>True) (xl:=[]) hR (by kernel_rfl) (by kernel_rfl) (by kernel_rfl) (by kernel_rfl) (.inl rfl) trivial ?_ t
 repeat first|refine vq rfl rfl (fun h1=>by simp only [ad,seval,et,i2,i3];exact rfl) ?_|refine vr rfl rfl (by simp only [ad,seval,et,i2,i3];exact rfl) ?_
 refine zv trivial (by simp only [ad,seval,n1,i2];intro h1 e;rw [e];exact ps i2) ?_;refine zv trivial (by simp only [ad,seval,n1,i3];intro h1 e;rw [e];exact ps i3) ?_
 repeat first|refine vq rfl rfl (fun h1=>by simp only [ad,seval,et,i2,i3];exact rfl) ?_|refine vr rfl rfl (by simp only [ad,seval,et,i2,i3];exact rfl) ?_
 rw [GI];simp only [ad,seval];have abw:=fS.aU (ir.aU mX);refine ajM Tryz.results10 (by simp) (by simp) (by simp) (by simp) (pa:=c2) (pb:=c3) (by simp [ak]) (by simp [ak]) (Aq (by kernel_rfl) i2 rfl) (Aq (by kernel_rfl) i3 rfl) ⟨rfl,ff.aU abw,.agg #[.slice cl fx k1,.slice bV fW bX,b4 a.b.fN,b4 a.b.fH],.agg #[.slice dz jj eL,.slice hD acG e8],eM,by simp [ak,b4],Sn.aU abw,axs,pZ,Sm⟩
end
def nv(x:ej)(y:Ground):List dD:=dD.jK x.fN x.fH::(x.cI.map dD.kO++(x.cO.map dD.kG++(dD.ground::(y.dT.map dD.lP++y.ei.map dD.lI))))
theorem join_cons{w:List UInt8}:∀{fs:List (List UInt8)},n2 (w::fs)=w++fs.flatMap fun f=>32::f
 | []=>by simp [n2]
 | g::fs=>by
  rw [n2,join_cons (w:=g) (fs:=fs)];simp
def ky(l:dD):List UInt8:=l.text++[10]
theorem KZ{w:List UInt8}{ns:List Int}:iq w ns=n2 (w::ns.map dn)++[10]:=by
 rw [join_cons,iq,qj,List.flatMap_map]
theorem Uk{ns:List Int}:ky (.kO ns)=iq mO ns:=KZ.symm
theorem Vw{a b:Int}:ky (.jK a b)=iq re [a,b]:=(KZ (w:=re) (ns:=[a,b])).symm
theorem Tn:ky .ground=iq oG []:=(KZ (w:=oG) (ns:=[])).symm
theorem SZ{bF:List (Int×Int)}:ky (.kG bF)=qk bF:=by
 show n2 (lO::bF.map jR)++[10]=_;rw [join_cons,qk,mP,List.flatMap_map]
theorem Ul{s:iB}:ky (.lP s)=xM s:=by
 show n2 [nz,s.name,dn s.dQ,dn s.size,dn s.iG]++[10]=iq (nz++32::s.name) [s.dQ,s.size,s.iG];rw [join_cons,iq,qj];simp
theorem To{s:je}:ky (.lI s)=vF s:=by
 show n2 [mR,s.name,dn s.size,dn s.gM,dn s.dQ]++[10]=iq (mR++32::s.name) [s.size,s.gM,s.dQ];rw [join_cons,iq,qj];simp
theorem Ex{x:ej}{y:Ground}:pw x y=(nv x y).flatMap ky:=by
 simp only [pw,nv,List.flatMap_cons,List.flatMap_append,List.flatMap_map,Uk,Vw,Tn,SZ,Ul,To]
theorem JN:∀{ls:List dD},(∀l∈ls,l.cu)->pieces (ls.flatMap ky)=ls.map ky
 | [],_=>rfl
 | l::ls,h=>by
  have e:(l::ls).flatMap ky=l.text++10::ls.flatMap ky:=by simp [ky]
  rw [e,Ew (h l (by simp)).HT,JN (ls:=ls) fun m hm=>h m (by simp [hm])];rfl
theorem amQ{l:dD}(h:l.cu):l.text≠[]:=by
 obtain ⟨w,rest,aP⟩:∃w rest,l.fields=w::rest:=by cases l<;>exact ⟨_,_,rfl⟩
 have hw:=(h.tok w (by rw [aP];simp)).1;intro e;have:n2 l.fields=[]:=e;rw [aP,join_cons] at this;exact hw (List.append_eq_nil_iff.1 this).1
theorem SJ:∀{ls:List dD} {l:dD},(∀m∈ls,m.cu)->l.cu->pieces (ls.flatMap ky++l.text)=ls.map ky++[l.text]
 | [],l,_,af=>by simp [JS (amQ af) af.HT]
 | m::ls,l,h,af=>by
  have e:(m::ls).flatMap ky++l.text=m.text++10::(ls.flatMap ky++l.text):=by simp [ky]
  rw [e,Ew (h m (by simp)).HT,SJ (ls:=ls) (fun n ao=>h n (by simp [ao])) af];rfl
def chain:Int->List dD->Bool
 | _,[]=>true
 | r,l::ls=>jb l r&&chain (Hl l) ls
theorem Ku:∀{ls:List dD} {a:Acc},chain a.last ls=true->∀(k:Nat) l,ls[k]? =some l->jb l ((ls.take k).foldl Acc.step a).last=true
 | [],a,_,k,l,h=>by simp at h
 | m::ls,a,h,k,l,hk=>by
  simp only [chain,Bool.and_eq_true] at h;cases k with
  | zero=>simp at hk;subst hk;exact h.1
  | succ k=>
   rw [List.take_succ_cons,List.foldl_cons];exact Ku (ls:=ls) (a:=a.step m) (by rw [agS];exact h.2) k l (by simpa using hk)
theorem SK{rest:List dD}:∀{l:List (List Int)} {r:Int},0<r->r<=2->(∀ly,0<ly->ly<=2->chain ly rest=true)->chain r (l.map dD.kO++rest)=true
 | [],r,h1,h2,h=>h r h1 h2
 | n::l,r,h1,h2,h=>by
  show (jb (.kO n) r&&chain 2 (l.map dD.kO++rest))=true;rw [SK (l:=l) (by decide) (by decide) h];simp [jb,h1,h2]
theorem Sw{rest:List dD}:∀{l:List (List (Int×Int))} {r:Int},0<r->r<=3->(∀ly,0<ly->ly<=3->chain ly rest=true)->chain r (l.map dD.kG++rest)=true
 | [],r,h1,h2,h=>h r h1 h2
 | n::l,r,h1,h2,h=>by
  show (jb (.kG n) r&&chain 3 (l.map dD.kG++rest))=true;rw [Sw (l:=l) (by decide) (by decide) h];simp [jb,h1,h2]
theorem SL{rest:List dD}:∀{l:List iB} {r:Int},4<=r->r<=5->(∀ly,4<=ly->ly<=5->chain ly rest=true)->chain r (l.map dD.lP++rest)=true
 | [],r,h1,h2,h=>h r h1 h2
 | n::l,r,h1,h2,h=>by
  show (jb (.lP n) r&&chain 5 (l.map dD.lP++rest))=true;rw [SL (l:=l) (by decide) (by decide) h];simp [jb,h1,h2]
theorem SD:∀{l:List je} {r:Int},4<=r->r<=6->chain r (l.map dD.lI)=true
 | [],r,h1,h2=>rfl
 | n::l,r,h1,h2=>by
  show (jb (.lI n) r&&chain 6 (l.map dD.lI))=true;rw [SD (l:=l) (by decide) (by decide)];simp [jb,h1,h2]
theorem S0{x:ej}{y:Ground}:chain 0 (nv x y)=true:=by
 show (jb (.jK x.fN x.fH) 0&&chain 1 _)=true;rw [SK (by decide) (by decide) fun r h1 h2=>Sw h1 (by omega) fun r h1 h2=> ?_]
 ·rfl
 ·show (jb .ground r&&chain 4 _)=true;rw [SL (by decide) (by decide) fun r h1 h2=>SD h1 (by omega)];simp [jb,h1];omega
theorem Tp:∀{l:List (List Int)} {a:Acc},∃r,(l.map dD.kO).foldl Acc.step a=⟨{a.b with cI:=a.b.cI++l},a.g,a.nm,r⟩
 | [],a=>⟨a.last,by simp⟩
 | n::l,a=>by
  obtain ⟨r,e⟩:=Tp (l:=l) (a:=a.step (.kO n));exact ⟨r,by rw [List.map_cons,List.foldl_cons,e];simp [Acc.step]⟩
theorem SN:∀{l:List (List (Int×Int))} {a:Acc},∃r,(l.map dD.kG).foldl Acc.step a=⟨{a.b with cO:=a.b.cO++l},a.g,a.nm,r⟩
 | [],a=>⟨a.last,by simp⟩
 | n::l,a=>by
  obtain ⟨r,e⟩:=SN (l:=l) (a:=a.step (.kG n));exact ⟨r,by rw [List.map_cons,List.foldl_cons,e];simp [Acc.step]⟩
theorem Tq:∀{l:List iB} {a:Acc},∃r,(l.map dD.lP).foldl Acc.step a=⟨a.b,{a.g with dT:=a.g.dT++l},a.nm,r⟩
 | [],a=>⟨a.last,by simp⟩
 | n::l,a=>by
  obtain ⟨r,e⟩:=Tq (l:=l) (a:=a.step (.lP n));exact ⟨r,by rw [List.map_cons,List.foldl_cons,e];simp [Acc.step]⟩
theorem S1:∀{l:List je} {a:Acc},∃r,(l.map dD.lI).foldl Acc.step a=⟨a.b,{a.g with ei:=a.g.ei++l},a.nm,r⟩
 | [],a=>⟨a.last,by simp⟩
 | n::l,a=>by
  obtain ⟨r,e⟩:=S1 (l:=l) (a:=a.step (.lI n));exact ⟨r,by rw [List.map_cons,List.foldl_cons,e];simp [Acc.step]⟩
theorem agU{x:ej}{y:Ground}:(hS (nv x y)).b=x/\(hS (nv x y)).g=y/\(hS (nv x y)).nm=true:=by
 unfold hS nv;rw [List.foldl_cons,List.foldl_append,List.foldl_append,List.foldl_cons,List.foldl_append];obtain ⟨r1,e1⟩:=Tp (l:=x.cI) (a:=rn.step (.jK x.fN x.fH));rw [e1];obtain ⟨r2,e2⟩:=SN (l:=x.cO) (a:=⟨{(rn.step (.jK x.fN x.fH)).b with cI:=(rn.step (.jK x.fN x.fH)).b.cI++x.cI},(rn.step (.jK x.fN x.fH)).g,(rn.step (.jK x.fN x.fH)).nm,r1⟩);rw [e2];generalize lx:Acc.step _ dD.ground=a;obtain ⟨r3,e3⟩:=Tq (l:=y.dT) (a:=a);rw [e3];obtain ⟨gI,e4⟩:=S1 (l:=y.ei) (a:=⟨a.b,{a.g with dT:=a.g.dT++y.dT},a.nm,r3⟩);rw [e4];subst lx;refine ⟨?_,?_,rfl⟩
 ·simp [Acc.step,rn]
 ·simp [Acc.step,rn]
theorem BB{x:ej}{y:Ground}(aa:x.cu)(ax:y.cu):∀l∈nv x y,l.cu:=by
 have n4:=aa.n4;intro l af;simp only [nv,List.mem_cons,List.mem_append,List.mem_map] at af;rcases af with rfl|⟨ns,ao,rfl⟩|⟨bF,aK,rfl⟩|rfl|⟨s,hs,rfl⟩|⟨a,aA,rfl⟩
 ·exact n4.1
 ·exact ⟨(aa.tP ns ao).1,n4.2.1 ns ao⟩
 ·refine ⟨(aa.load bF aK).1,fun p abx=>⟨n4.2.2 bF aK p abx,?_⟩⟩;have:=(aa.load bF aK).2 p abx;simp only [insideOk,Bool.and_eq_true,decide_eq_true_eq] at this;exact this.2.2
 ·trivial
 ·have h1:=ax.st.1 s hs;have h2:=WB h1;simp only [k9,Bool.and_eq_true] at h1;exact ⟨h1.1,h2 _ (by simp),h2 _ (by simp),h2 _ (by simp)⟩
 ·have h1:=ax.yH.1 a aA;have h2:=WC h1;simp only [ko,Bool.and_eq_true] at h1;exact ⟨h1.1,h2 _ (by simp),h2 _ (by simp),h2 _ (by simp)⟩
theorem MD{x:ej}{y:Ground}(aa:x.cu)(ax:y.cu):(nv x y).length<=19:=by
 have:=aa.lay;have:=aa.Dq;have:=ax.ns;have:=ax.Ec;simp only [nv,List.length_cons,List.length_append,List.length_map];omega
theorem aph{l:dD}(h:l.cu):(ky l).length<=60:=by
 cases l with
 | jK a b=>rw [Vw];exact Nat.le_trans r6 (by simp [re])
 | kO ns=>rw [Uk];exact Nat.le_trans r6 (by have:=h.1;simp [mO];omega)
 | kG bF=>rw [SZ];exact Nat.le_trans Ks (by have:=h.1;omega)
 | ground=>rw [Tn];exact Nat.le_trans r6 (by simp [oG])
 | lP s=>rw [Ul];exact Nat.le_trans r6 (by have:=Fc h.1;simp [nz];omega)
 | lI s=>rw [To];exact Nat.le_trans r6 (by have:=Fc h.1;simp [mR];omega)
theorem Kv{x:ej}{y:Ground}(aa:x.cu)(ax:y.cu):(pw x y).length<=1140:=by
 rw [Ex];refine Nat.le_trans (E9 (k:=60) fun l af=>aph (BB aa ax l af)) ?_;have:=MD aa ax;omega
theorem ajN{x:ej}{y:Ground}(aa:x.cu)(ax:y.cu):Hp (pw x y) (nv x y) where
 len:=by have:=Kv aa ax;omega
 n:=by have:=MD aa ax;omega
 same:=by rw [Ex,JN (BB aa ax),List.length_map]
 pc:=fun k p l aK af=>by
  rw [Ex,JN (BB aa ax),List.getElem?_map,af] at aK;exact .inl (Option.some.inj aK).symm
 ok:=BB aa ax
 abj:=Ku S0
theorem agV{x:ej}{y:Ground}(aa:x.cu)(ax:y.cu):0<(pw x y).length/\Hp ((pw x y).take ((pw x y).length- 1)) (nv x y):=by
 have b7:nv x y≠[]:=by simp [nv]
 have ok:=BB aa ax;have azR:=Ex (x:=x) (y:=y);have pl:=Kv aa ax;have ch:=Ku (a:=rn) (S0 (x:=x) (y:=y));have pV:=MD aa ax;generalize nv x y=ls at*
 generalize pw x y=P at*
 obtain ⟨init,last,rfl⟩:∃init last,ls=init++[last]:=⟨ls.dropLast,ls.getLast b7,(List.dropLast_concat_getLast b7).symm⟩;have e1:P=(init.flatMap ky++last.text)++[10]:=by rw [azR];simp [ky]
 have af:=ok last (by simp);have e2:P.take (P.length- 1)=init.flatMap ky++last.text:=by
  rw [e1,List.length_append,List.length_singleton,Nat.add_sub_cancel,List.take_left' rfl]
 have aK:pieces (P.take (P.length- 1))=init.map ky++[last.text]:=by
  rw [e2];exact SJ (fun m hm=>ok m (by simp [hm])) af
 refine ⟨by rw [e1,List.length_append,List.length_singleton];omega,⟨by rw [List.length_take];omega,by omega,by rw [aK];simp,fun k p l h1 h2=> ?_,ok,ch⟩⟩;rw [aK] at h1;rcases Nat.lt_or_ge k init.length with hk|hk
 ·rw [List.getElem?_append_left (by simpa using hk),List.getElem?_map] at h1;rw [List.getElem?_append_left hk] at h2;rw [h2] at h1;exact .inl (Option.some.inj h1).symm
 ·rw [List.getElem?_append_right (by simpa using hk),List.length_map] at h1;rw [List.getElem?_append_right hk] at h2;cases aE:k- init.length with
  | zero=>rw [aE] at h1 h2;simp at h1 h2;subst h1;subst h2;exact .inr rfl
  | succ q=>rw [aE] at h1;simp at h1
section
variable{main:Bool}{ah:Type}{S:Sys ah}{s:ah}{h:ab}
theorem call8:bP Tryz.prog 8=true:=by kernel_rfl
theorem api{v w:Value}{x:ej}{y:Ground}{J:ah->Prop}{C:Prop}(fin:∀c,Tryz.f4.body=some c->cF Tryz.prog main S 102 ⟨4,.normal,none⟩ c (fun e=>match e with|.ext _=>fun _ _ _ _=>False|_=>er Tryz.prog Tryz.f4 (fun ai h' z=>J ai/\h.aD h'/\z=.bool true) 102) (dE [v,w]) [] s h->C)(aI:mh h v x)(hw:lG h w y)(aj:tQ h)(h4:oe h)(h5:oQ h)
  (wn:∀h',h.aD h'->bI Tryz.prog main S 7 #[] s h' fun ai oT z=>J ai/\h'.aD oT/\z=.bool true) (dC:bP Tryz.prog 7=true):C:=by
 refine fin _ (by delta Tryz.f4;rfl) ?_;obtain ⟨v1,v2,aS,kB,pf⟩:=id aI;obtain ⟨w1,w2,qW,y3,y4⟩:=id hw;obtain ⟨_,f1,_⟩:=id kB;obtain ⟨_,f2,_⟩:=id pf;obtain ⟨cl,fx,k1,rfl⟩:=f1.form;obtain ⟨bV,fW,bX,rfl⟩:=f2.form;obtain ⟨dz,jj,eL,rfl⟩:=y3.form;obtain ⟨hD,acG,e8,rfl⟩:=y4.form;clear kB pf y3 y4 f1 f2;rw [aS,qW];rw [aS] at aI;rw [qW] at hw;clear aS qW;simp only [ad,seval,b4];intro c2 h2 cN e2 c3 h3 ed e3;have bK:=(cS cN e2).aU (cS ed e3);have g2:=cS ed e3 _ _ (cq e2);have g3:=cq e3;clear e2 e3;simp only [ad,seval,g2];refine c0 call5 (aqZ (aI.le bK)) fun eW QF z ⟨an,cd,aB⟩=> ?_;subst an;have CE:=bK.aU cd;have g2:=cd _ _ g2;have g3:=cd _ _ g3;rcases aB with ⟨rfl,pZ⟩|⟨rfl,pZ⟩
 ·simp only [ad,seval];refine c0 dC (wn QF CE) fun jl Rn z ⟨an,ey,aB⟩=> ?_;subst aB;simp only [ad,seval];exact bT Tryz.results4 (by simp) ⟨an,CE.aU ey,by simp [ak]⟩
 simp only [ad,seval,g3];refine c0 call6 (aoN (hw.le CE)) fun jl Rn z ⟨an,ey,aB⟩=> ?_;subst an;have vH:=CE.aU ey;have g2:=ey _ _ g2;have g3:=ey _ _ g3;rcases aB with ⟨rfl,So⟩|⟨rfl,So⟩
 ·simp only [ad,seval];refine c0 dC (wn Rn vH) fun qU h6 z ⟨an,dY,aB⟩=> ?_;subst aB;simp only [ad,seval];exact bT Tryz.results4 (by simp) ⟨an,vH.aU dY,by simp [ak]⟩
 have Sp:x.fits:=⟨fun l af=>by
  rcases Nat.lt_or_ge 20 l.length with q|q
  ·exact (pZ (.inr (.inr (.inl ⟨l,af,q⟩)))).elim
  ·omega,fun l af=>by
  rcases Nat.lt_or_ge 20 l.length with q|q
  ·exact (pZ (.inr (.inr (.inr ⟨l,af,q⟩)))).elim
  ·omega⟩
 have azS:y.fits:=⟨fun l af=>by
  rcases Nat.lt_or_ge 100 l.name.length with q|q
  ·exact (So (.inr (.inr (.inl ⟨l,af,q⟩)))).elim
  ·omega,fun l af=>by
  rcases Nat.lt_or_ge 100 l.name.length with q|q
  ·exact (So (.inr (.inr (.inr ⟨l,af,q⟩)))).elim
  ·omega⟩
 clear CE cd bK ey;simp only [ad,seval,g2,g3];refine c0 call8 (amE (aI.le vH) (hw.le vH) Sp azS (aj.le vH) (h4.le vH)) fun qU h6 z ⟨an,dY,aB⟩=> ?_;subst an;have CF:=vH.aU dY;have g2:=dY _ _ g2;have g3:=dY _ _ g3;clear vH dY;rcases aB with ⟨⟨wK,wL⟩,rfl⟩|⟨hg,f,aP,rfl⟩
 case inr=>
  simp only [ad,seval,fG,g2];refine c0 call14 (Ua (aI.le CF)) fun yJ h7 z ⟨an,ff,f1,aB,aX⟩=> ?_;subst an;subst aB;have tT:=CF.aU ff;have g3:=ff _ _ g3;have vZ:(f != 0)=true:=by simpa using aP
  have rest:∀h8,h.aD h8->bI Tryz.prog main S 7 #[] yJ h8 fun ai oT z=>J ai/\h8.aD oT/\z=.bool true:=fun h8 azT=>wn h8 azT;by_cases aa:f1=0
  ·have e1:(f1 != 0)=false:=by simp [aa]
   simp only [ad,seval,e1,g3];refine c0 call15 (SW (hw.le tT)) fun acH h8 z ⟨an,fS,f2,aB,cp⟩=> ?_;subst an;subst aB;have ax:f2≠0:=fun e=>hg ⟨aX.1 aa,cp.1 e⟩;have e2:(f2 != 0)=true:=by simpa using ax
   simp only [ad,seval,e2,vZ,ki,show (([]:List UInt8)==[])=true from rfl];refine c0 dC (wn _ (tT.aU fS)) fun mI h9 z ⟨an,gD,aB⟩=> ?_;subst aB;simp only [ad,seval];exact bT Tryz.results4 (by simp) ⟨an,(tT.aU fS).aU gD,by simp [ak]⟩
  ·have e1:(f1 != 0)=true:=by simpa using aa
   simp only [ad,seval,e1,vZ,ki,show (([]:List UInt8)==[])=true from rfl];refine c0 dC (wn _ tT) fun mI h9 z ⟨an,gD,aB⟩=> ?_;subst aB;simp only [ad,seval];exact bT Tryz.results4 (by simp) ⟨an,tT.aU gD,by simp [ak]⟩
 simp only [ad,seval,fG,g2];refine c0 call14 (Ua (aI.le CF)) fun yJ h7 z ⟨an,ff,f1,aB,aX⟩=> ?_;subst an;subst aB;rw [aX.2 wK];have tT:=CF.aU ff;have g2:=ff _ _ g2;have g3:=ff _ _ g3;simp only [ad,seval,show ((0:Int) != 0)=false from rfl,g3];refine c0 call15 (SW (hw.le tT)) fun acH h8 z ⟨an,fS,f2,aB,cp⟩=> ?_;subst an;subst aB;rw [cp.2 wL];have PF:=tT.aU fS;have g2:=fS _ _ g2;have g3:=fS _ _ g3;have Js:=ajN wK wL;obtain ⟨xD,td⟩:=agV wK wL;have aui:=Kv wK wL;have bR:=agU (x:=x) (y:=y);generalize pw x y=P at Js td xD aui;have e0:((P.length:Int)==0)=false:=by rw [beq_eq_false_iff_ne];omega
 simp only [ad,seval,show ((0:Int) != 0)=false from rfl,ha,e0];have b1:=fun s=>WL (main:=main) (S:=S) (s:=s) Js (by omega) bR.2.2 (by rw [bR.1];exact wK) (by rw [bR.2.1];exact wL) (h5.le PF) (aj.le PF);simp only [bR.1,bR.2.1] at b1;refine c0 call10 (b1 _) fun mI h9 z ⟨an,gD,bv,rV,eM,aB,p1,ti,A3,A4⟩=> ?_;subst an;subst aB;obtain ⟨gX,fi,rfl,kB,pf⟩:=id A3;obtain ⟨jk,pU,rfl,y3,y4⟩:=id A4;obtain ⟨_,f1,_⟩:=id kB;obtain ⟨_,f2,_⟩:=id pf;obtain ⟨a1,db,yB,rfl⟩:=f1.form;obtain ⟨a2,dB,Bf,rfl⟩:=f2.form;obtain ⟨a3,n3,D5,rfl⟩:=y3.form;obtain ⟨a4,n4,RS,rfl⟩:=y4.form;clear kB pf y3 y4 f1 f2 b1 aX cp ti;have PG:=PF.aU gD;have g2:=gD _ _ g2;have g3:=gD _ _ g3;clear gD fS ff CF tT;simp only [ad,seval,fG,b4];intro Jc h10 sY hA eN h11 ot nI;have aby:c2≠Jc:=fun e=>by rw [e,sY] at g2;cases g2
 have ir:=cS sY hA;have mX:=cS ot nI;have abz:c3≠eN:=fun e=>by have t:=ir _ _ g3;rw [e,ot] at t;cases t
 have i7:=mX _ _ (cq hA);have i8:=cq nI;have Db:=p1.aU (ir.aU mX);have JA:h Jc=none:=jq PG sY;have JB:h eN=none:=jq (PG.aU ir) ot;have wJ:eM Jc=none:=jq p1 sY;have JC:eM eN=none:=jq (p1.aU ir) ot;have YD:=PG.aU (ir.aU mX);have g2:=mX _ _ (ir _ _ g2);have g3:=mX _ _ (ir _ _ g3);clear hA nI ir mX p1;simp only [ad,seval,i7];intro h12 nN;have rW:=cq nN;have pe:=r4 nN i8 i7 (by decide);have pI:=r4 nN g3 i7 (by decide);have rJ:h12 c2=_:=(by rw [nN];exact cG aby:h12 c2=h11 c2).trans g2;have abA:=fq Db wJ nN;have ss:=fq YD JA nN;clear nN i7 i8 g2 g3 Db YD;simp only [ad,seval,pe];intro h13 wy;have ph:=cq wy;have oE:=r4 wy rW pe (by decide);have p2:=r4 wy rJ pe (by decide);have p3:h13 c3=_:=(by rw [wy];exact cG abz:h13 c3=h12 c3).trans pI;have Rs:=fq abA JC wy;have pG:=fq ss JB wy;clear wy rW pe rJ pI abA ss;have acI:x.cI.length<=1000/\x.cO.length<=1000:=⟨by have:=wK.lay;omega,by have:=wK.Dq;omega⟩;have nk:y.dT.length<=1000/\y.ei.length<=1000:=⟨by have:=wL.ns;omega,by have:=wL.Ec;omega⟩;simp only [ad,seval,show ((0:Int) != 0)=false from rfl,oE,p2];refine c0 call12 (Tk (A3.le Rs) (aI.le pG) acI Sp) fun aBh h14 z ⟨an,vI,aB⟩=> ?_;subst an;subst aB;have Bc:(x.fN==x.fN&&(x.fH==x.fH&&(x.cI==x.cI&&x.cO==x.cO)))=true:=by simp
 rw [Bc];have ph:=vI _ _ ph;have oE:=vI _ _ oE;have p2:=vI _ _ p2;have p3:=vI _ _ p3;simp only [ad,seval,ph,p3];refine c0 call13 (SH (A4.le (Rs.aU vI)) (hw.le (pG.aU vI)) nk) fun aBi h15 z ⟨an,As,aB⟩=> ?_;subst an;rcases aB with ⟨rfl,_⟩|⟨_,b7⟩
 case inr=>exact (b7 ⟨rfl,rfl⟩).elim
 have ph:=As _ _ ph;have oE:=As _ _ oE;have p2:=As _ _ p2;have p3:=As _ _ p3;have Hq:=pG.aU (vI.aU As);clear A3 A4 Rs wJ JC pG vI As;have v1:IntKind.i64.wrap ((P.length:Int)- 1)=((P.length- 1:Nat):Int):=by rw [dw (by omega) (by omega)];omega
 have l7:∀{h:ab} [K:KK Value],au Tryz.prog (Instr.sliceAt 9 (.string ⟨⟨P⟩⟩) none (some (.int .i64 (P.length- 1:Nat))) none) h=K.f (aW (P.take (P.length- 1))) h:=fun {h K}=>xK (by omega);simp only [ad,seval,ha,v1,l7];have bC:=fun s=>WL (main:=main) (S:=S) (s:=s) td (by rw [List.length_take];omega) bR.2.2 (by rw [bR.1];exact wK) (by rw [bR.2.1];exact wL) (h5.le Hq) (aj.le Hq);simp only [bR.1,bR.2.1] at bC;refine c0 call10 (bC _) fun aBj h16 z ⟨an,At,bv,rV,eM,aB,p1,ti,A3,A4⟩=> ?_;subst an;subst aB;obtain ⟨gX,fi,rfl,kB,pf⟩:=id A3;obtain ⟨jk,pU,rfl,y3,y4⟩:=id A4;obtain ⟨_,f1,_⟩:=id kB;obtain ⟨_,f2,_⟩:=id pf;obtain ⟨d1,db,t1,rfl⟩:=f1.form;obtain ⟨d2,dB,t2,rfl⟩:=f2.form;obtain ⟨d3,n3,t3,rfl⟩:=y3.form;obtain ⟨d4,n4,t4,rfl⟩:=y4.form;clear kB pf y3 y4 f1 f2 bC;have wJ:=ti Jc (by rw [oE];rfl);have JC:=ti eN (by rw [ph];rfl);have ph:=At _ _ ph;have oE:=At _ _ oE;have p2:=At _ _ p2;have p3:=At _ _ p3;have YE:=Hq.aU At;clear Hq At;simp only [ad,seval,fG,b4,oE];intro h17 my;have rW:=cq my;have pe:=r4 my ph oE (by decide);have pI:=r4 my p3 oE (by decide);have rJ:h17 c2=_:=(by rw [my];exact cG aby:h17 c2=h16 c2).trans p2;have abB:=fq p1 wJ my;have Zs:=fq YE JA my;clear my oE ph p2 p3 p1 YE;simp only [ad,seval,pe];intro h18 kY;have ph:=cq kY;have oE:=r4 kY rW pe (by decide);have p2:=r4 kY rJ pe (by decide);have p3:h18 c3=_:=(by rw [kY];exact cG abz:h18 c3=h17 c3).trans pI;have abC:=fq abB JC kY;have PH:=fq Zs JB kY;clear kY rW pe rJ pI abB Zs;simp only [ad,seval,show ((0:Int)==0)=true from rfl,oE,p2];refine c0 call12 (Tk (A3.le abC) (aI.le PH) acI Sp) fun aBk h19 z ⟨an,CG,aB⟩=> ?_;subst an;subst aB;rw [Bc];have ph:=CG _ _ ph;have p3:=CG _ _ p3;simp only [ad,seval,ph,p3];refine c0 call13 (SH (A4.le (abC.aU CG)) (hw.le (PH.aU CG)) nk) fun aBl h20 z ⟨an,auj,aB⟩=> ?_;subst an;rcases aB with ⟨rfl,_⟩|⟨_,b7⟩
 case inr=>exact (b7 ⟨rfl,rfl⟩).elim
 simp only [ad,seval];have YF:=PH.aU (CG.aU auj);refine c0 dC (wn _ YF) fun aBm h21 z ⟨an,auk,aB⟩=> ?_;subst aB;simp only [ad,seval];exact bT Tryz.results4 (by simp) ⟨an,YF.aU auk,by simp [ak]⟩
end
end
end Go.Nk
