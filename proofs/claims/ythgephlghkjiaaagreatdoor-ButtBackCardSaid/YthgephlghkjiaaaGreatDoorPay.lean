/- Part Pay of the proof of ButtBack: lemmas. -/
import Derived.Test.YthgephlghkjiaaaGreatDoorPax
set_option maxRecDepth 100000
set_option maxHeartbeats 4000000
set_option linter.all false
namespace Go.Nk
noncomputable section
open Go Go.Conc Go.Proofs
section
variable{P:Program}{main:Bool}{ah:Type}{S:Sys ah}{b:bn}{e:Env}{d:List Deferred}{s:ah}{h:ab}{N:Env->List Deferred->ah->ab->Prop}
theorem B4{dst:Option Nat}{recv:Operand}{name pos:String}{ty:Nat}{es:Array Edge}{g:Option (Nat×Bool)}{v:Value}{f:FuncId}{AU:Array Value}(al:aS e recv=v)(hi:∀Q,bf P (invoke (.fn (.method name) #[]) #[v]) h Q=Q (.enter f AU) h)(hd:lE b ⟨dst,.call ⟨.invoke recv name,#[],#[]⟩,ty,pos,es,g⟩=false)
  (u:bI P main S f AU s h fun ai h' v=>N (cv e dst v) d ai h'):b3 P main S b ⟨dst,.call ⟨.invoke recv name,#[],#[]⟩,ty,pos,es,g⟩ e d s h N:=by
 refine .inl ⟨hd,?_⟩;have e1:execOp (aS e) ⟨dst,.call ⟨.invoke recv name,#[],#[]⟩,ty,pos,es,g⟩=(do let d <- resolve (aS e) ⟨.invoke recv name,#[],#[]⟩ ty;invoke d.target d.args):=rfl;rw [e1];simp only [resolve,aV,bh,al];rw [show (#[v]++Array.map (aS e) #[]:Array Value)=#[v] by simp];exact (hi (xd P main S ⟨dst,.call ⟨.invoke recv name,#[],#[]⟩,ty,pos,es,g⟩ e d s N)).mpr u
end
def Hl:dD->Nat
 | .jK _ _=>1|.kO _=>2|.kG _=>3|.ground=>4|.lP _=>5|.lI _=>6
section
variable{h:ab}
theorem arP{a:Array Value}{Q:Next->ab->Prop}:bf Tryz.prog (invoke (.fn (.method "nock/butt.rank") #[]) #[.iface 159 (.agg a)]) h Q=Q (.enter 251 #[.agg a]) h:=by kernel_rfl
theorem Yr{a:Array Value}{Q:Next->ab->Prop}:bf Tryz.prog (invoke (.fn (.method "nock/butt.rank") #[]) #[.iface 161 (.agg a)]) h Q=Q (.enter 252 #[.agg a]) h:=by kernel_rfl
theorem Ys{a:Array Value}{Q:Next->ab->Prop}:bf Tryz.prog (invoke (.fn (.method "nock/butt.rank") #[]) #[.iface 163 (.agg a)]) h Q=Q (.enter 253 #[.agg a]) h:=by kernel_rfl
theorem arQ{a:Array Value}{Q:Next->ab->Prop}:bf Tryz.prog (invoke (.fn (.method "nock/butt.rank") #[]) #[.iface 165 (.agg a)]) h Q=Q (.enter 120 #[.agg a]) h:=by kernel_rfl
theorem Yt{a:Array Value}{Q:Next->ab->Prop}:bf Tryz.prog (invoke (.fn (.method "nock/butt.rank") #[]) #[.iface 167 (.agg a)]) h Q=Q (.enter 254 #[.agg a]) h:=by kernel_rfl
theorem Yu{a:Array Value}{Q:Next->ab->Prop}:bf Tryz.prog (invoke (.fn (.method "nock/butt.rank") #[]) #[.iface 169 (.agg a)]) h Q=Q (.enter 255 #[.agg a]) h:=by kernel_rfl
end
section
variable{main:Bool}{ah:Type}{S:Sys ah}{s:ah}{h:ab}
theorem call120:bP Tryz.prog 120=true:=by kernel_rfl
theorem arR{a:Array Value}:bI Tryz.prog main S 251 #[.agg a] s h fun ai h' v=>ai=s/\h.aD h'/\v=.int .i64 1:=by
 refine cc (args:=[.agg a]) Tryz.func251 (by delta Tryz.f251;rfl) Tryz.ntmps251 (by simp) (by kernel_rfl) ?_;simp only [ad,seval];intro c h1 hc e1;exact bT Tryz.results251 (by simp) ⟨rfl,cS hc e1,by simp [ak]⟩
theorem Yv{a:Array Value}:bI Tryz.prog main S 252 #[.agg a] s h fun ai h' v=>ai=s/\h.aD h'/\v=.int .i64 2:=by
 refine cc (args:=[.agg a]) Tryz.func252 (by delta Tryz.f252;rfl) Tryz.ntmps252 (by simp) (by kernel_rfl) ?_;simp only [ad,seval];intro c h1 hc e1;exact bT Tryz.results252 (by simp) ⟨rfl,cS hc e1,by simp [ak]⟩
theorem Yw{a:Array Value}:bI Tryz.prog main S 253 #[.agg a] s h fun ai h' v=>ai=s/\h.aD h'/\v=.int .i64 3:=by
 refine cc (args:=[.agg a]) Tryz.func253 (by delta Tryz.f253;rfl) Tryz.ntmps253 (by simp) (by kernel_rfl) ?_;simp only [ad,seval];intro c h1 hc e1;exact bT Tryz.results253 (by simp) ⟨rfl,cS hc e1,by simp [ak]⟩
theorem Hm{a:Array Value}:bI Tryz.prog main S 120 #[.agg a] s h fun ai h' v=>ai=s/\h.aD h'/\v=.int .i64 4:=by
 refine cc (args:=[.agg a]) Tryz.func120 (by delta Tryz.f120;rfl) Tryz.ntmps120 (by simp) (by kernel_rfl) ?_;simp only [ad,seval];intro c h1 hc e1;exact bT Tryz.results120 (by simp) ⟨rfl,cS hc e1,by simp [ak]⟩
theorem Yx{a:Array Value}:bI Tryz.prog main S 254 #[.agg a] s h fun ai h' v=>ai=s/\h.aD h'/\v=.int .i64 5:=by
 refine cc (args:=[.agg a]) Tryz.func254 (by delta Tryz.f254;rfl) Tryz.ntmps254 (by simp) (by kernel_rfl) ?_;simp only [ad,seval];intro c h1 hc e1;exact bT Tryz.results254 (by simp) ⟨rfl,cS hc e1,by simp [ak]⟩
theorem Yy{a:Array Value}:bI Tryz.prog main S 255 #[.agg a] s h fun ai h' v=>ai=s/\h.aD h'/\v=.int .i64 6:=by
 refine cc (args:=[.agg a]) Tryz.func255 (by delta Tryz.f255;rfl) Tryz.ntmps255 (by simp) (by kernel_rfl) ?_;simp only [ad,seval];intro c h1 hc e1;exact bT Tryz.results255 (by simp) ⟨rfl,cS hc e1,by simp [ak]⟩
theorem Ar{x t u:Nat}{v z:Value}{fs:Array Field}{K:Value->ab->Prop}(hu:Tryz.prog.underlying u=some (.struct fs))(aH:zeroOf Tryz.prog u=some z):@au Tryz.prog _ (Instr.typeAssert (.iface t v) x u true) h ⟨K⟩=K (if t=u then .tuple #[v,.bool true] else .tuple #[z,.bool false]) h:=by
 simp only [au,Instr.typeAssert,aV,df,hu];by_cases e:t=u
 ·simp only [e,if_true,bh]
 ·simp only [e,if_false,if_true,aV,iD,aH,bh]
theorem qm{t:Nat}{v:Value}[K:KK Value]:au Tryz.prog (Instr.typeAssert (.iface t v) 153 159 true) h=K.f (if t=159 then .tuple #[v,.bool true] else .tuple #[.agg #[.int .i64 0,.int .i64 0],.bool false]) h:=Ar (K:=K.f) Tryz.underlying159 (by kernel_rfl)
theorem Ch{t:Nat}{v:Value}[K:KK Value]:au Tryz.prog (Instr.typeAssert (.iface t v) 153 161 true) h=K.f (if t=161 then .tuple #[v,.bool true] else .tuple #[.agg #[.slice none 0 0],.bool false]) h:=Ar (K:=K.f) Tryz.underlying161 (by kernel_rfl)
theorem Hn{t:Nat}{v:Value}[K:KK Value]:au Tryz.prog (Instr.typeAssert (.iface t v) 153 163 true) h=K.f (if t=163 then .tuple #[v,.bool true] else .tuple #[.agg #[.slice none 0 0],.bool false]) h:=Ar (K:=K.f) Tryz.underlying163 (by kernel_rfl)
theorem vp{t:Nat}{v:Value}[K:KK Value]:au Tryz.prog (Instr.typeAssert (.iface t v) 153 165 true) h=K.f (if t=165 then .tuple #[v,.bool true] else .tuple #[.agg #[],.bool false]) h:=Ar (K:=K.f) Tryz.underlying165 (by kernel_rfl)
theorem Aa{t:Nat}{v:Value}[K:KK Value]:au Tryz.prog (Instr.typeAssert (.iface t v) 153 167 true) h=K.f (if t=167 then .tuple #[v,.bool true] else .tuple #[.agg #[.string .empty,.int .i64 0,.int .i64 0,.int .i64 0],.bool false]) h:=Ar (K:=K.f) Tryz.underlying167 (by kernel_rfl)
theorem Ci{t:Nat}{v:Value}[K:KK Value]:au Tryz.prog (Instr.typeAssert (.iface t v) 153 169 true) h=K.f (if t=169 then .tuple #[v,.bool true] else .tuple #[.agg #[.string .empty,.int .i64 0,.int .i64 0,.int .i64 0],.bool false]) h:=Ar (K:=K.f) Tryz.underlying169 (by kernel_rfl)
theorem apb{v:Value}{l:dD}(q:AZ h v l):∃f a,(∀Q,bf Tryz.prog (invoke (.fn (.method "nock/butt.rank") #[]) #[v]) h Q=Q (.enter f a) h)/\bI Tryz.prog main S f a s h fun ai h' z=>ai=s/\h.aD h'/\z=.int .i64 (Hl l):=by
 cases l with
 | jK a b=>cases q;exact ⟨_,_,fun Q=>arP,arR⟩
 | kO ns=>obtain ⟨a,n,c,rfl,_⟩:=q;exact ⟨_,_,fun Q=>Yr,Yv⟩
 | kG ns=>obtain ⟨a,n,c,rfl,_⟩:=q;exact ⟨_,_,fun Q=>Ys,Yw⟩
 | ground=>cases q;exact ⟨_,_,fun Q=>arQ,Hm⟩
 | lP x=>cases q;exact ⟨_,_,fun Q=>Yt,Yx⟩
 | lI x=>cases q;exact ⟨_,_,fun Q=>Yu,Yy⟩
end
def jb:dD->Int->Bool
 | .jK _ _,k=>k==0
 | .ground,k=>decide (k>0)&&decide (k<4)
 | .kO _,k=>decide (k>0)&&decide (k<=2)
 | .kG _,k=>decide (k>0)&&decide (k<=3)
 | .lP _,k=>decide (k>=4)&&decide (k<=5)
 | .lI _,k=>decide (k>=4)&&decide (k<=6)
section
variable{main:Bool}{ah:Type}{S:Sys ah}{s:ah}{h:ab}
theorem call76:bP Tryz.prog 76=true:=by kernel_rfl
theorem f165:(xJ Tryz.prog 165=true/\sT Tryz.prog 165=#[])/\m9 Tryz.prog 165=0/\(cy Tryz.prog 165).isSome=true:=⟨⟨by kernel_rfl,by kernel_rfl⟩,by kernel_rfl,by kernel_rfl⟩
theorem arS{fb:bn}{c:Nat}{x:eI}(aa:h c=some x)[K:hE ah]:fa Tryz.prog main S fb 165 (bL c 0) s h=K.f s h (.agg #[]):=by
 rw [u7 (K:=K) aa,By (K:=⟨fun v h=>K.f s h v⟩) (m:=0) (by kernel_rfl)];rfl
theorem agR{t:Nat}{v:Value}{l:dD}{k:Int}(q:AZ h (.iface t v) l):bI Tryz.prog main S 76 #[.iface t v,.int .i64 k] s h fun ai h' z=>ai=s/\h.aD h'/\z=.bool (jb l k):=by
 refine cc (args:=[.iface t v,.int .i64 k]) Tryz.func76 (by delta Tryz.f76;rfl) Tryz.ntmps76 (by simp) (by kernel_rfl) ?_;cases l with
 | jK a b=>
  cases q;simp only [ad,seval,qm,fG,b4];intro c h1 hc e1;have g1:=cq e1;simp only [ad,seval,g1];intro h2 e2;exact bT Tryz.results76 (by simp) ⟨rfl,fq (cS hc e1) hc e2,by simp [ak,jb]⟩
 | ground=>
  cases q;simp only [ad,seval,qm,vp,fG,f165];intro c h1 hc e1;have g1:=cq e1;simp only [ad,seval,g1,f165];intro h2 e2;have g2:=cq e2;have bM:=fq (cS hc e1) hc e2;by_cases hk:k>0
  ·have at1:∀{fb:bn} [K:hE ah],fa Tryz.prog main S fb 165 (bL c 0) s h2=K.f s h2 (.agg #[]):=fun {fb K}=>arS g2;simp only [ad,seval,decide_eq_true hk,at1];refine c0 call120 Hm fun fQ h3 z ⟨an,bK,aB⟩=> ?_;subst an;subst aB;simp only [ad,seval];exact bT Tryz.results76 (by simp) ⟨rfl,bM.aU bK,by simp [ak,jb,hk]⟩
  ·simp only [ad,seval,decide_eq_false hk];exact bT Tryz.results76 (by simp) ⟨rfl,bM,by simp [ak,jb,hk]⟩
 | kO ns=>
  obtain ⟨a,n,c,e,az⟩:=q;cases e;simp only [ad,seval,qm,vp,Aa,Ci,fG];by_cases hk:k>0
  ·simp only [ad,seval,decide_eq_true hk];refine B4 (v:=.iface 161 (.agg #[.slice a n c])) (by simp [ak,aS]) (fun Q=>Yr) rfl (Yv.mono fun fQ h3 z ⟨an,bK,aB⟩=> ?_);subst an;subst aB;simp only [ad,seval];exact bT Tryz.results76 (by simp) ⟨rfl,bK,by simp [ak,jb,hk]⟩
  ·simp only [ad,seval,decide_eq_false hk];exact bT Tryz.results76 (by simp) ⟨rfl,.lC _,by simp [ak,jb,hk]⟩
 | kG ns=>
  obtain ⟨a,n,c,e,az⟩:=q;cases e;simp only [ad,seval,qm,vp,Aa,Ci,fG];by_cases hk:k>0
  ·simp only [ad,seval,decide_eq_true hk];refine B4 (v:=.iface 163 (.agg #[.slice a n c])) (by simp [ak,aS]) (fun Q=>Ys) rfl (Yw.mono fun fQ h3 z ⟨an,bK,aB⟩=> ?_);subst an;subst aB;simp only [ad,seval];exact bT Tryz.results76 (by simp) ⟨rfl,bK,by simp [ak,jb,hk]⟩
  ·simp only [ad,seval,decide_eq_false hk];exact bT Tryz.results76 (by simp) ⟨rfl,.lC _,by simp [ak,jb,hk]⟩
 | lP x=>
  cases q;simp only [ad,seval,qm,vp,Aa,Ci,fG,OW];refine c0 call120 Hm fun fQ h3 z ⟨an,bK,aB⟩=> ?_;subst an;subst aB;by_cases hk:k>=4
  ·simp only [ad,seval,decide_eq_true hk];refine B4 (v:=.iface 167 x.v) (by simp [ak,aS]) (fun Q=>Yt) rfl (Yx.mono fun eW h4 z ⟨an,cd,aB⟩=> ?_);subst an;subst aB;simp only [ad,seval];exact bT Tryz.results76 (by simp) ⟨rfl,bK.aU cd,by simp [ak,jb,hk]⟩
  ·simp only [ad,seval,decide_eq_false hk];exact bT Tryz.results76 (by simp) ⟨rfl,bK,by simp [ak,jb,hk]⟩
 | lI x=>
  cases q;simp only [ad,seval,qm,vp,Aa,Ci,fG,OW];refine c0 call120 Hm fun fQ h3 z ⟨an,bK,aB⟩=> ?_;subst an;subst aB;by_cases hk:k>=4
  ·simp only [ad,seval,decide_eq_true hk];refine B4 (v:=.iface 169 x.v) (by simp [ak,aS]) (fun Q=>Yu) rfl (Yy.mono fun eW h4 z ⟨an,cd,aB⟩=> ?_);subst an;subst aB;simp only [ad,seval];exact bT Tryz.results76 (by simp) ⟨rfl,bK.aU cd,by simp [ak,jb,hk]⟩
  ·simp only [ad,seval,decide_eq_false hk];exact bT Tryz.results76 (by simp) ⟨rfl,bK,by simp [ak,jb,hk]⟩
theorem call42:bP Tryz.prog 42=true:=by kernel_rfl
theorem at2{v:Value}(aI:∃a t,v=.iface t (.pointer a)):bI Tryz.prog main S 42 #[.nilIface,v] s h fun ai h' z=>ai=s/\h'=h/\z=.bool false:=by
 refine cc (args:=[.nilIface,v]) Tryz.func42 (by delta Tryz.f42;rfl) Tryz.ntmps42 (by simp) (by kernel_rfl) ?_;simp only [ad,seval,Zh];exact bT Tryz.results42 (by simp) ⟨rfl,rfl,by simp [ak]⟩
end
def aa9(l:List Oper):Bool:=(List.range l.length).all fun i=>match l[i]? with
 | some o=>(pH o.op).all fun t=>(List.range l.length).all fun j=>match l[j]? with
  | some aO=>aO.dst != some t||(if Nat.blt j i then kK l i j else Nat.beq i j||kK l j i)
  | none=>true
 | none=>true
theorem amN{l:List Oper}(h:aa9 l=true){i j t:Nat}{o aO:Oper}(hi:l[i]? =some o)(ae:l[j]? =some aO)(aj:t∈pH o.op)(hd:aO.dst=some t):(j<i/\kK l i j=true)\/j=i\/(i<j/\kK l j i=true):=by
 have oC:=(List.getElem?_eq_some_iff.1 hi).1;have gY:=(List.getElem?_eq_some_iff.1 ae).1;have h1:=List.all_eq_true.1 h i (List.mem_range.2 oC);rw [hi] at h1;have h2:=List.all_eq_true.1 (List.all_eq_true.1 h1 t aj) j (List.mem_range.2 gY);rw [ae] at h2;simp only [hd,bne_self_eq_false,Bool.false_or] at h2;by_cases bY:j<i
 ·rw [if_pos (show Nat.blt j i=true from Nat.ble_eq_true_of_le bY)] at h2;exact .inl ⟨bY,h2⟩
 ·rw [if_neg (show ¬Nat.blt j i=true from fun q=>bY (Nat.le_of_ble_eq_true q))] at h2;rw [Bool.or_eq_true] at h2;rcases h2 with q|q
  ·exact .inr (.inl (Nat.eq_of_beq_eq_true q).symm)
  ·by_cases e:j=i
   ·exact .inr (.inl e)
   ·exact .inr (.inr ⟨by omega,q⟩)
def A0(xl:List Nat)(o:Oper):Bool:=Yj o.op||match o.dst with|some t=>xl.contains t|none=>false
def xv(xl:List Nat)(l:List Oper)(i:Nat):Bool:=match l[i]? with|some o=>kN o.op|| !A0 xl o|none=>false
def Zk(xl:List Nat)(l:List Oper):Bool:=(List.range l.length).all fun i=>(List.range l.length).all fun j=> !(xv xl l i&&iX l j)||Nat.beq i j||(if Nat.blt j i then kK l i j else kK l j i)
theorem ajK{xl:List Nat}{l:List Oper}(h:Zk xl l=true){i j:Nat}(oC:i<l.length)(gY:j<l.length)(hm:xv xl l i=true)(hs:iX l j=true):i=j\/(j<i/\kK l i j=true)\/(i<j/\kK l j i=true):=by
 have h2:=List.all_eq_true.1 (List.all_eq_true.1 h i (List.mem_range.2 oC)) j (List.mem_range.2 gY);rw [hm,hs] at h2;simp only [Bool.and_self,Bool.not_true,Bool.false_or,Bool.or_eq_true] at h2;rcases h2 with q|q
 ·exact .inl (Nat.eq_of_beq_eq_true q)
 ·by_cases bY:j<i
  ·rw [if_pos (show Nat.blt j i=true from Nat.ble_eq_true_of_le bY)] at q;exact .inr (.inl ⟨bY,q⟩)
  ·rw [if_neg (show ¬Nat.blt j i=true from fun q=>bY (Nat.le_of_ble_eq_true q))] at q;by_cases e:i=j
   ·exact .inl e
   ·exact .inr (.inr ⟨by omega,q⟩)
section
variable{P:Program}{main:Bool}{ah:Type}{S:Sys ah}{b:bn}
def OY(P:Program)(main:Bool){ah:Type}(S:Sys ah)(b:bn)(s:ah)(C:ab->Prop)(xl:List Nat)(o:Oper)(e:Env)(h:ab)(e':Env)(h':ab):Prop:=
 (kN o.op=true/\e'=e/\oP P o.op (aS e) h (fun x=>x=h')/\C h')\/
 (kN o.op=false/\h'=h/\∃v,e'=cv e o.dst v/\((A0 xl o=true/\∀h,C h->eU P main S b o.type o.op (aS e) s h fun s2 h2 bQ=>s2=s/\h2=h/\bQ=v)\/(A0 xl o=false/\eU P main S b o.type o.op (aS e) s h fun s2 h2 bQ=>s2=s/\h2=h/\bQ=v)))
def oM(P:Program)(main:Bool){ah:Type}(S:Sys ah)(b:bn)(s:ah)(C:ab->Prop)(xl:List Nat)(c:Bool):List Oper->Env->ab->(Env->ab->Prop)->Prop
 | [],e,h,N=>N e h
 | o::l,e,h,N=>∃e' h',OY P main S b s C xl o e h e' h'/\(c=true->h'=h)/\oM P main S b s C xl c l e' h' N
theorem Zl{s:ah}{C:ab->Prop}{xl:List Nat}{c:Bool}:∀{l:List Oper} {e0:Env} {h0:ab} {N:Env->ab->Prop},oM P main S b s C xl c l e0 h0 N->∃(E:Nat->Env) (H:Nat->ab),E 0=e0/\H 0=h0/\N (E l.length) (H l.length)/\∀i o,l[i]? =some o->OY P main S b s C xl o (E i) (H i) (E (i+1)) (H (i+1))/\(c=true->H (i+1)=H i)
 | [],e0,h0,N,u=>⟨fun _=>e0,fun _=>h0,rfl,rfl,u,fun i o hi=>by simp at hi⟩
 | o::l,e0,h0,N,⟨e',h',aI,iA,u⟩=>by
  obtain ⟨E,H,h1,h2,h3,h4⟩:=Zl u;refine ⟨fun|0=>e0|i+1=>E i,fun|0=>h0|i+1=>H i,rfl,rfl,h3,fun i aO hi=> ?_⟩;cases i with
  | zero=>simp at hi;subst hi;show OY P main S b s C xl o e0 h0 (E 0) (H 0)/\(c=true->H 0=h0);rw [h1,h2];exact ⟨aI,iA⟩
  | succ i=>exact h4 i aO (by simpa using hi)
theorem ED{l:List Oper}{d:List Deferred}{N:Env->List Deferred->ah->ab->Prop}(lR:P.follows .mixedOrders=true)(h1:od l=true)(h2:nu 0 l=true)(h3:xL l=true)(h4:aa9 l=true){C:ab->Prop}{xl:List Nat}{c:Bool}(h5:c=true\/Zk xl l=true){e0:Env}{s:ah}{h0:ab}
  (hC:C h0) (u:oM P main S b s C xl c l e0 h0 fun E h=>N E d s h) (t:Nat):gk P main S b l.toArray (Region.schedule (P.follows .mixedOrders) l.toArray t) e0 d s h0 N:=by
 obtain ⟨E,H,k0,Bb,R6,rJ⟩:=Zl u;have k:=fun i o hi=>(rJ i o hi).1;have kc:c=true->∀i,i<=l.length->H i=h0:=fun hc i=>by
  induction i with
  | zero=>intro _;exact Bb
  | succ i aN=>intro hi;rw [(rJ i l[i] (List.getElem?_eq_getElem (by omega))).2 hc];exact aN (by omega)
 have aH:l.toArray.size=l.length:=by simp
 have at3:∀{i o},l[i]? =some o->∀t,o.dst≠some t->E (i+1) t=E i t:=fun {i o} hi t ao=>by
  rcases k i o hi with ⟨_,e,_,_⟩|⟨_,_,v,e,_⟩
  ·rw [e]
  ·rw [e];cases hd:o.dst with
   | none=>rfl
   | some d=>rw [cM,aZ,if_neg (fun q=>ao (by rw [hd,q]))]
 have sV:∀(t n m:Nat),m+n<=l.length->(∀(j:Nat) (o:Oper),m<=j->j<m+n->l[j]? =some o->o.dst≠some t)->E (m+n) t=E m t:=by
  intro t n
  induction n with
  | zero=>intros;rfl
  | succ n aN=>
   intro m hm ae;have af:m+n<l.length:=by omega
   have hi:l[m+n]? =some l[m+n]:=List.getElem?_eq_getElem af;show E (m+n+1) t=_;rw [at3 hi t (ae _ _ (by omega) (by omega) hi),aN m (by omega) fun j o a b=>ae j o a (by omega)]
 have Zm:∀(n m:Nat),m+n<=l.length->(∀j,m<=j->j<m+n->iX l j=false)->H (m+n)=H m:=by
  intro n
  induction n with
  | zero=>intros;rfl
  | succ n aN=>
   intro m hm ae;have af:m+n<l.length:=by omega
   have hi:l[m+n]? =some l[m+n]:=List.getElem?_eq_getElem af;have hs:=ae (m+n) (by omega) (by omega);unfold iX at hs;rw [hi] at hs;show H (m+n+1)=_;rcases k _ _ hi with ⟨a,_⟩|⟨_,e,_⟩
   ·have dX:kN l[m+n].op=false:=hs;rw [dX] at a;cases a
   ·rw [e];exact aN m (by omega) fun j a b=>ae j a (by omega)
 have two:∀{i j:Nat} {o aO:Oper} {t:Nat},l[i]? =some o->l[j]? =some aO->o.dst=some t->aO.dst=some t->i=j:=fun hi ae e e'=>ze h1 hi ae (e.trans e'.symm) (by rw [e];simp);have early:∀{i j t:Nat} {o:Oper},l[j]? =some o->o.dst=some t->i<=j->E i t=e0 t:=fun {i j t o} ae hd m2=>by
  have gY:=(List.getElem?_eq_some_iff.1 ae).1;have:=sV t i 0 (by omega) fun mG aO _ bY kr e'=>by have:=two kr ae e' hd;omega
  rw [Nat.zero_add] at this;rw [this,k0]
 have late:∀{i j t:Nat} {o:Oper},l[j]? =some o->o.dst=some t->j<i->i<=l.length->E i t=E l.length t:=fun {i j t o} ae hd m2 hi=>by
  have:=sV t (l.length- i) i (by omega) fun mG aO hle _ kr e'=>by have:=two kr ae e' hd;omega
  rw [show i+(l.length- i)=l.length by omega] at this;exact this.symm
 have never:∀{i t:Nat},(∀(j:Nat) (o:Oper),l[j]? =some o->o.dst≠some t)->i<=l.length->E i t=e0 t:=fun {i t} ao hi=>by
  have:=sV t i 0 (by omega) fun j o _ _ ae=>ao j o ae;rw [Nat.zero_add] at this;rw [this,k0]
 unfold Region.schedule;rw [lR,Bool.true_or,if_pos rfl];refine y1 (ops:=l.toArray) h2 (fun D e ai h=>ai=s/\C h/\(c=true->h=h0)/\(∀i,i<=l.length->(∀j,j<l.length->iX l j=true->(D j=true↔j<i))->h=H i)/\(∀(j:Nat) (o:Oper),l[j]? =some o->D j=true->∀x∈o.after,Region.binds .any x=true->x.on<l.length->D x.on=true)/\(∀t,(∀(j:Nat) (o:Oper),l[j]? =some o->o.dst≠some t)->e t=e0 t)/\(∀(j:Nat) (o:Oper) (t:Nat),l[j]? =some o->o.dst=some t->e t=if D j=true then E l.length t else e0 t))
  (fun D l5 e ai h lZ ⟨an,Ee,fA,az,aB,aX,cp⟩=> ?_) (fun D e ai h i o ⟨an,Ee,fA,az,aB,aX,cp⟩ hi iv aQ nY=> ?_) (fun D e ai h ⟨an,Ee,fA,az,aB,aX,cp⟩ kn=> ?_)
  ⟨rfl,hC,fun _=>rfl,fun i hi hd=> ?_,fun _ _ _ q=>(Bool.false_ne_true q).elim,fun _ _=>rfl,fun _ _ _ _ _=>rfl⟩ t
 ·rw [aH] at lZ;refine ⟨an,Ee,fA,fun i hi hd=>az i hi fun j gY hs=>by rw [lZ j gY];exact hd j gY hs,fun j o ae du x aa hb af=> ?_,aX,fun j o t ae aj=> ?_⟩
  ·have gY:=(List.getElem?_eq_some_iff.1 ae).1;rw [<- lZ x.on af];exact aB j o ae (by rw [lZ j gY];exact du) x aa hb af
  ·have gY:=(List.getElem?_eq_some_iff.1 ae).1;rw [<- lZ j gY];exact cp j o t ae aj
 ·subst an;have c9:l[i]? =some o:=by simpa using aQ
  have oC:=(List.getElem?_eq_some_iff.1 c9).1;have hw:Region.wanted o (kH l.toArray e)=true:=by simp [Region.wanted,zd h1 c9]
  rw [if_pos hw];have XT:∀j,j<l.length->kK l j i=true->D j=false:=fun j gY c=>by
   cases du:D j with
   | false=>rfl
   | true=>
    have ae:l[j]? =some l[j]:=List.getElem?_eq_getElem gY;unfold kK at c;rw [ae] at c;obtain ⟨x,aa,hb⟩:=List.any_eq_true.1 c;simp only [Bool.and_eq_true,beq_iff_eq] at hb;have:=aB j _ ae du x (by simpa using aa) hb.1 (by rw [hb.2];exact oC);rw [hb.2,iv] at this;cases this
  have WK:∀j,kK l i j=true->D j=true:=fun j c=>by
   unfold kK at c;rw [c9] at c;obtain ⟨x,aa,hb⟩:=List.any_eq_true.1 c;simp only [Bool.and_eq_true,beq_iff_eq] at hb;have du:=nY x (by simpa using aa) hb.1;rw [hb.2] at du;exact du
  have al:∀t∈pH o.op,e t=E i t:=fun t aj=>by
   by_cases hex:∃(j:Nat) (aO:Oper),l[j]? =some aO/\aO.dst=some t
   ·obtain ⟨j,aO,ae,hd⟩:=hex;have gY:=(List.getElem?_eq_some_iff.1 ae).1;rcases amN h4 c9 ae aj hd with ⟨a,c⟩|a|⟨a,c⟩
    ·rw [cp j aO t ae hd,if_pos (WK j c),late ae hd a (by omega)]
    ·subst a;rw [cp j aO t ae hd,if_neg (by rw [iv];exact Bool.false_ne_true),early ae hd (Nat.le_refl _)]
    ·rw [cp j aO t ae hd,if_neg (by rw [XT j gY c];exact Bool.false_ne_true),early ae hd (by omega)]
   ·have ao:∀(j:Nat) (aO:Oper),l[j]? =some aO->aO.dst≠some t:=fun j aO ae hd=>hex ⟨j,aO,ae,hd⟩;rw [aX t ao,never ao (by omega)]
  have jJ:¬c=true->xv xl l i=true->∀j,j<l.length->iX l j=true->(D j=true↔j<i):=fun DJ hm j gY hs=>by
   rcases ajK (h5.resolve_left DJ) oC gY hm hs with a|⟨a,c⟩|⟨a,c⟩
   ·subst a;rw [iv];exact ⟨fun q=>(Bool.false_ne_true q).elim,fun q=>by omega⟩
   ·exact ⟨fun _=>a,fun _=>WK j c⟩
   ·rw [XT j gY c];exact ⟨fun q=>(Bool.false_ne_true q).elim,fun q=>by omega⟩
  have aba:xv xl l i=true->h=H i:=fun hm=>by
   by_cases hc:c=true
   ·rw [fA hc,kc hc i (by omega)]
   ·exact az i (by omega) (jJ hc hm)
  have env:∀v,(∀t,o.dst=some t->E (i+1) t=v)->(∀t,(∀(j:Nat) (o:Oper),l[j]? =some o->o.dst≠some t)->cv e o.dst v t=e0 t)/\∀(j:Nat) (oz:Oper) (t:Nat),l[j]? =some oz->oz.dst=some t->cv e o.dst v t=if (if j=i then true else D j)=true then E l.length t else e0 t:=by
   intro v aI;refine ⟨fun t ao=> ?_,fun j oz t ae hd=> ?_⟩
   ·cases hd:o.dst with
    | none=>exact aX t ao
    | some d=>rw [cM,aZ,if_neg (fun q=>ao i o c9 (by rw [hd,q]))];exact aX t ao
   ·by_cases e3:j=i
    ·subst e3;rw [c9] at ae;cases ae;simp only [if_true];rw [<- late c9 hd (Nat.lt_succ_self _) oC,aI t hd,hd];simp only [cM,aZ,if_true]
    ·simp only [if_neg e3];rw [<- cp j oz t ae hd];cases uu:o.dst with
     | none=>rfl
     | some d=>rw [cM,aZ,if_neg (fun q=>e3 (two ae c9 hd (by rw [uu,q])))]
  have abb:∀(j:Nat) (oz:Oper),l[j]? =some oz->(if j=i then true else D j)=true->∀x∈oz.after,Region.binds .any x=true->x.on<l.length->(if x.on=i then true else D x.on)=true:=by
   intro j oz ae du x aa hb af;by_cases e2:x.on=i
   ·simp [e2]
   ·simp only [if_neg e2];by_cases e3:j=i
    ·subst e3;rw [c9] at ae;cases ae;exact nY x aa hb
    ·simp only [if_neg e3] at du;exact aB j oz ae du x aa hb af
  rcases k i o c9 with ⟨hs,jm,st,axm⟩|⟨hs,o7,v,jm,st⟩
  ·have DD:iX l i=true:=by unfold iX;rw [c9];exact hs
   have abc:xv xl l i=true:=by unfold xv;rw [c9];simp [hs]
   have Rg:=(E8 h3 c9).1 hs;have hh:=aba abc;rw [<- KY hs al,<- hh] at st;have oY:=env undef (fun t aj=>by rw [Rg] at aj;cases aj);rw [Rg] at oY;refine tk (Vn Rg (Ud (fun h' axn=> ?_) st));subst axn;refine ⟨rfl,rfl,axm,fun hc=>kc hc (i+1) oC,fun yM dt hd=> ?_,abb,oY.1,oY.2⟩;by_cases DJ:c=true
   ·rw [kc DJ yM dt,kc DJ (i+1) oC]
   have Bd:∀j,j<l.length->iX l j=true->((if j=i then true else D j)=true↔j<i+1):=fun j gY jf=>by
    by_cases e3:j=i
    ·simp [e3]
    ·simp only [if_neg e3];rw [jJ DJ abc j gY jf];omega
   have hle:i+1<=yM:=by have:=(hd i oC DD).1 (by simp);omega
   have:=Zm (yM- (i+1)) (i+1) (by omega) fun j a b9=>by
    cases jf:iX l j with
    | false=>rfl
    | true=>
     have:=(Bd j (by omega) jf).1 ((hd j (by omega) jf).2 (by omega));omega
   rw [show i+1+(yM- (i+1))=yM by omega] at this;exact this.symm
  ·have hc:=(E8 h3 c9).2 hs;have yl:∀t∈iQ o.op,e t=E i t:=fun t aj=>al t (by
    have:pH o.op=iQ o.op:=by
     cases x2:o.op<;>first|rfl|(rw [x2] at hs;cases hs)
    rw [this];exact aj)
   have abd:eU P main S b o.type o.op (aS (E i)) ai h fun s2 h2 bQ=>s2=ai/\h2=h/\bQ=v:=by
    rcases st with ⟨_,st⟩|⟨Dz,st⟩
    ·exact st h Ee
    ·rw [aba (by unfold xv;rw [c9];simp [Dz])];exact st
   rw [<- zf hc yl] at abd;have oY:=env v (fun t aj=>by rw [jm,aj,cM,aZ,if_pos rfl]);refine tk (E7 hc (y7 (fun s2 h2 bQ ⟨r1,r2,r3⟩=> ?_) abd));subst r1;subst r2;subst r3;have QZ:∀j,iX l j=true->(if j=i then true else D j)=D j:=fun j jf=>by
    by_cases e3:j=i
    ·subst e3;unfold iX at jf;rw [c9] at jf;have Zn:kN o.op=true:=jf;rw [hs] at Zn;cases Zn
    ·rw [if_neg e3]
   refine ⟨rfl,rfl,Ee,fA,fun yM dt hd=>az yM dt fun j gY jf=>by rw [<- QZ j jf];exact hd j gY jf,abb,oY.1,oY.2⟩
 ·have:=Zm i 0 (by omega) fun j _ b9=>by
   cases jf:iX l j with
   | false=>rfl
   | true=>exact ((Bool.false_ne_true ((hd j (by omega) jf).2 (by omega)))).elim
  rw [Nat.zero_add] at this;rw [this,Bb]
 ·subst an;have he:e=E l.length:=by
   funext t;by_cases hex:∃(j:Nat) (aO:Oper),l[j]? =some aO/\aO.dst=some t
   ·obtain ⟨j,aO,ae,hd⟩:=hex;rw [cp j aO t ae hd,if_pos (kn j (by rw [aH];exact (List.getElem?_eq_some_iff.1 ae).1))]
   ·have ao:∀(j:Nat) (aO:Oper),l[j]? =some aO->aO.dst≠some t:=fun j aO ae hd=>hex ⟨j,aO,ae,hd⟩;rw [aX t ao,never ao (Nat.le_refl _)]
  have hh:=az l.length (Nat.le_refl _) fun j gY _=>⟨fun _=>gY,fun _=>kn j (by rw [aH];exact gY)⟩;subst he;subst hh;exact R6
end
section
variable{P:Program}{main:Bool}{ah:Type}{S:Sys ah}{b:bn}{s:ah}{h:ab}{l:List Oper}{e:Env}{N:Env->ab->Prop}{dst:Option Nat}{op:Op}{ty:Nat}{pos:String}{es:Array Edge}{g:Option (Nat×Bool)}
theorem GI{C:ab->Prop}{xl:List Nat}{c:Bool}:oM P main S b s C xl c [] e h N=N e h:=rfl
theorem vq{C:ab->Prop}{xl:List Nat}{c:Bool}{v:Value}(hs:kN op=false)(hm:Yj op=true)(u:∀h,eU P main S b ty op (aS e) s h fun ai h' bQ=>ai=s/\h'=h/\bQ=v)(k:oM P main S b s C xl c l (cv e dst v) h N):oM P main S b s C xl c (⟨dst,op,ty,pos,es,g⟩::l) e h N:=
 ⟨_,_,.inr ⟨hs,rfl,v,rfl,.inl ⟨by unfold A0;rw [hm];rfl,fun h _=>u h⟩⟩,fun _=>rfl,k⟩
theorem Yz{C:ab->Prop}{xl:List Nat}{c:Bool}{v:Value}(hs:kN op=false)(hm:A0 xl ⟨dst,op,ty,pos,es,g⟩=true)(u:∀h,C h->eU P main S b ty op (aS e) s h fun ai h' bQ=>ai=s/\h'=h/\bQ=v)(k:oM P main S b s C xl c l (cv e dst v) h N):oM P main S b s C xl c (⟨dst,op,ty,pos,es,g⟩::l) e h N:=
 ⟨_,_,.inr ⟨hs,rfl,v,rfl,.inl ⟨hm,u⟩⟩,fun _=>rfl,k⟩
theorem vr{C:ab->Prop}{xl:List Nat}{c:Bool}{v:Value}(hs:kN op=false)(hm:A0 xl ⟨dst,op,ty,pos,es,g⟩=false)(u:eU P main S b ty op (aS e) s h fun ai h' bQ=>ai=s/\h'=h/\bQ=v)(k:oM P main S b s C xl c l (cv e dst v) h N):oM P main S b s C xl c (⟨dst,op,ty,pos,es,g⟩::l) e h N:=
 ⟨_,_,.inr ⟨hs,rfl,v,rfl,.inr ⟨hm,u⟩⟩,fun _=>rfl,k⟩
theorem Oc{C:ab->Prop}{xl:List Nat}{t:Nat}{x y:Operand}{h':ab}(hC:C h')(u:oP P (.store t x y) (aS e) h (fun x=>x=h'))(k:oM P main S b s C xl false l e h' N):oM P main S b s C xl false (⟨dst,.store t x y,ty,pos,es,g⟩::l) e h N:=
 ⟨_,h',.inl ⟨rfl,rfl,u,hC⟩,fun e=>(by cases e),k⟩
theorem zv{C:ab->Prop}{xl:List Nat}{c:Bool}{t:Nat}{x y:Operand}(hC:C h)(u:oP P (.store t x y) (aS e) h (fun x=>x=h))(k:oM P main S b s C xl c l e h N):oM P main S b s C xl c (⟨dst,.store t x y,ty,pos,es,g⟩::l) e h N:=
 ⟨_,h,.inl ⟨rfl,rfl,u,hC⟩,fun _=>rfl,k⟩
end
def pieces:List UInt8->List (List UInt8)
 | []=>[]
 | x::l=>if x==10 then [10]::pieces l else match pieces l with|[]=>[[x]]|p::bF=>(x::p)::bF
theorem Ew{b:List UInt8}:∀{a:List UInt8},(∀x∈a,(x==10)=false)->pieces (a++10::b)=(a++[10])::pieces b
 | [],_=>by simp [pieces]
 | x::a,h=>by
  rw [List.cons_append,pieces,h x (by simp),Ew (a:=a) fun y ax=>h y (by simp [ax])];rfl
theorem JS:∀{a:List UInt8},a≠[]->(∀x∈a,(x==10)=false)->pieces a=[a]
 | [],h,_=>(h rfl).elim
 | [x],_,h=>by rw [pieces,h x (by simp)];rfl
 | x::y::a,_,h=>by
  rw [pieces,h x (by simp),JS (a:=y::a) (by simp) fun z aH=>h z (by simp [aH])];rfl
section
variable{main:Bool}{ah:Type}{S:Sys ah}{s:ah}{h:ab}
theorem call111:bP Tryz.prog 111=true:=by kernel_rfl
theorem call73:bP Tryz.prog 73=true:=by kernel_rfl
theorem amO{l:List UInt8}:bI Tryz.prog main S 73 #[aW l] s h fun ai h' v=>ai=s/\∃c,h c=none/\h'=h.put c ⟨.cells #[aW l] 9 (0,0),true⟩/\v=ea 111 [bL c 0]:=by
 refine cc (args:=[aW l]) Tryz.func73 (by delta Tryz.f73;rfl) Tryz.ntmps73 (by simp) (by kernel_rfl) ?_;simp only [ad,seval];intro c h1 hc e1;exact bT Tryz.results73 (by simp) ⟨rfl,c,hc,e1,by simp [ak]⟩
theorem amP{l c1 p:Nat}{L:Loop}{txt:List UInt8}{Z:Nat->ab->Prop}(aK:L.params=#[p])(azJ:∀k h,Z k h->h l=some ⟨.loop L,true⟩)(azK:∀k h x y,Z k h->h c1=some x->Z k (h.put c1 y))
  (ax:∀k pc s h x,(pieces txt)[k]? =some pc->Z k h->h c1=some x->kq Tryz.prog main S l L.fn (L.tmps.setIfInBounds p (aW pc)) L.assign L.body s h fun ai h' v=>ai=s/\v=.bool true/\Z (k+1) h'/\h' c1=some x)
  (aH:Z 0 h) (g:h c1=some ⟨.cells #[aW txt] 9 (0,0),true⟩) (af:txt.length<=90000):
  bI Tryz.prog main S 111 #[.func (.yield l) #[] #[],bL c1 0] s h fun ai h' v=>ai=s/\Z (pieces txt).length h':=by
 refine cc (args:=[.func (.yield l) #[] #[],bL c1 0]) Tryz.func111 (by delta Tryz.f111;rfl) Tryz.ntmps111 (by simp) (by kernel_rfl) ?_;simp only [ad,seval];refine eG (I:=fun m e d cx aa=>∃k r,m=r.length/\r.length<=txt.length/\e 0=.func (.yield l) #[] #[]/\e 1=bL c1 0/\d=[]/\cx=s/\Z k aa/\aa c1=some ⟨.cells #[aW r] 9 (0,0),true⟩/\(pieces txt).drop k=pieces r/\k<=(pieces txt).length) (fun m e d cx aa bU=> ?_) (m:=txt.length) ⟨0,txt,rfl,Nat.le_refl _,by simp [ak],by simp [ak],rfl,rfl,aH,g,rfl,by omega⟩;obtain ⟨k,r,rfl,al,e0,e1,rfl,rfl,aH,g,hd,hk⟩:=bU;cases r with
 | nil=>
  simp only [ad,seval,e1,g,ha,show decide (((0:Nat):Int)>0)=false from rfl];have hJ:k=(pieces txt).length:=by
   have:=congrArg List.length hd;simp [pieces] at this;omega
  exact nt Tryz.results111 ⟨rfl,hJ▸aH⟩
 | cons y r0=>
  generalize RQ:y::r0=r at*
  have xD:0<r.length:=by rw [<- RQ];simp
  simp only [ad,seval,e1,g,ha,decide_eq_true (show ((r.length:Nat):Int)>0 by omega)];refine eQ call112 (aro r 10 _ _) ?_;have fin:∀(pc b:List UInt8) (gl:ab),gl=aa.put c1 ⟨.cells #[aW b] 9 (0,0),true⟩->(pieces txt).drop k=pc::pieces b->
    (gl l=some ⟨.loop L,true⟩/\kq Tryz.prog main S l L.fn (L.tmps.setIfInBounds p (aW pc)) L.assign L.body cx gl fun ai h' v=>ai=cx/\v=.bool true/\Z (k+1) h'/\h' c1=some ⟨.cells #[aW b] 9 (0,0),true⟩)/\(pieces txt).drop (k+1)=pieces b/\k+1<=(pieces txt).length:=by
   intro pc b gl ex fo;have aG:(pieces txt)[k]? =some pc:=by
    have:=congrArg (·[0]?) fo;simpa using this
   have DK:=(List.getElem?_eq_some_iff.1 aG).1;have jy:Z k gl:=by subst ex;exact azK k aa _ _ aH g
   refine ⟨⟨azJ _ _ jy,ax k pc cx gl _ aG jy (by subst ex;exact dd)⟩,by rw [<- List.drop_drop,fo];rfl,DK⟩
  cases aE:mB 10 r with
  | none=>
   have ao:=Fa.1 aE;have bU:mn 10 r= -1:=by rw [mn,aE]
   rw [JS (by rw [<- RQ];simp) ao] at hd;simp only [ad,seval,bU,show decide ((-1:Int)>=0)=false from rfl,e1,g];intro h2 e2;obtain ⟨⟨AY,yD⟩,uu,DK⟩:=fin r [] h2 e2 hd;simp only [ad,seval,e0];rw [EM (K:=⟨_⟩) AY aK];refine kq.mono (fun ai h' v q=> ?_) yD;obtain ⟨rfl,rfl,aB,aX⟩:=q;simp only [ad,seval];exact ⟨0,xD,k+1,[],rfl,by simp,by simp [ak,e0],by simp [ak,e1],aB,aX,uu,DK⟩
  | some i=>
   obtain ⟨a,b,I4,rfl,ao⟩:=Kt aE;have bU:mn 10 r=(a.length:Int):=by rw [mn,aE]
   have hlen:r.length=a.length+b.length+1:=by rw [I4];simp;omega
   rw [I4,Ew ao] at hd;have v1:IntKind.i64.wrap ((a.length:Int)+1)=((a.length+1:Nat):Int):=by rw [dw (by omega) (by omega)];omega
   have l7:∀{h:ab} [K:KK Value],au Tryz.prog (Instr.sliceAt 9 (.string ⟨⟨r⟩⟩) none (some (.int .i64 (a.length+1:Nat))) none) h=K.f (aW (a++[10])) h:=fun {h K}=>by
    rw [xK (by omega),I4];have:(a++10::b).take (a.length+1)=a++[10]:=by rw [List.take_length_add_append];rfl
    rw [this]
   have tg:∀{h:ab} [K:KK Value],au Tryz.prog (Instr.sliceAt 9 (.string ⟨⟨r⟩⟩) (some (.int .i64 (a.length+1:Nat))) none none) h=K.f (aW b) h:=fun {h K}=>by
    rw [CB (by omega),I4];have:(a++10::b).drop (a.length+1)=b:=by rw [<- List.drop_drop,List.drop_left' rfl];rfl
    rw [this]
   simp only [ad,seval,bU,decide_eq_true (show ((a.length:Nat):Int)>=0 by omega),kJ];intro t;refine ED (c:=false) (C:=fun _=>True) (xl:=[]) hR (by kernel_rfl) (by kernel_rfl) (by kernel_rfl) (by kernel_rfl) (.inr (by kernel_rfl)) trivial ?_ t
   repeat first|refine vq rfl rfl (fun h1=>by simp only [ad,seval,et,e0,e1,g,v1,l7,tg];exact rfl) ?_|refine vr rfl rfl (by simp only [ad,seval,et,e0,e1,g,v1,l7,tg];exact rfl) ?_
   refine Oc trivial (by simp only [ad,seval,n1,e1,g];exact fun _ e=>e) ?_;rw [GI];obtain ⟨⟨AY,yD⟩,uu,DK⟩:=fin (a++[10]) b _ rfl hd;simp only [ad,seval,e0];rw [EM (K:=⟨_⟩) AY aK];refine kq.mono (fun ai h' v q=> ?_) yD;obtain ⟨rfl,rfl,aB,aX⟩:=q;simp only [ad,seval];exact ⟨b.length,by omega,k+1,b,rfl,by omega,by simp [ak,e0],by simp [ak,e1],aB,aX,uu,DK⟩
end
def bB(h0:ab)(M:List Nat)(h:ab):ab:=fun b=>if b∈M\/(h0 b).isSome=true then none else h b
theorem YA{h0:ab}{M:List Nat}{h:ab}:(bB h0 M h).aD h:=fun b x aa=>by
 unfold bB at aa;split at aa
 ·cases aa
 ·exact aa
theorem Od{h0:ab}{M:List Nat}{h:ab}{c:Nat}{x:eI}(hc:c∈M):bB h0 M (h.put c x)=bB h0 M h:=by
 funext b;unfold bB;by_cases e:b=c
 ·subst e;simp [hc]
 ·rw [cG e]
theorem BO{h0:ab}{M gZ:List Nat}{h h':ab}(k1:∀d x,d∉M->h d=some x->h' d=some x)(bX:∀d,d∈gZ->d∈M\/h d=none):(bB h0 M h).aD (bB h0 gZ h'):=fun b x aa=>by
 unfold bB at aa ⊢;by_cases e:b∈M\/(h0 b).isSome=true
 ·rw [if_pos e] at aa;cases aa
 ·rw [if_neg e] at aa;rw [if_neg (fun q=>q.elim (fun q=>(bX b q).elim (fun r=>e (.inl r)) fun r=>by rw [r] at aa;cases aa) fun q=>e (.inr q))];exact k1 b x (fun q=>e (.inl q)) aa
theorem Ho{h0:ab}{M:List Nat}{h:ab}{a:Option Addr}{n c bo:Nat}{rows:List (List Value)}(q:dx h (.slice a n c) bo rows)(k:∀A,a=some A->A.block∉M/\h0 A.block=none):dx (bB h0 M h) (.slice a n c) bo rows:=by
 obtain ⟨b,o,n',b2,e,cR,hb⟩:=q;cases e;refine ⟨_,o,_,_,rfl,cR,hb.imp id fun ⟨m,e,arr,q,f,w,hm,al⟩=>⟨m,e,arr,q,f,w,?_,al⟩⟩;subst e;obtain ⟨k1,bX⟩:=k _ rfl;unfold bB;rw [if_neg (fun q=>q.elim k1 fun q=>by rw [bX] at q;cases q)];exact hm
theorem fT.own{h:ab}{sl:Value}{el bo b:Nat}{rows:List (List Value)}(q:fT h sl el bo rows (some b)):∃arr,h b=some ⟨.cells arr el (0,0),true⟩:=by
 rcases q with ⟨e,_⟩|⟨b9,cap,arr,e,_,hb,_⟩
 ·cases e
 ·cases e;exact ⟨arr,hb⟩
theorem fT.ne{h:ab}{sl kS:Value}{el abe bo PY b b9:Nat}{rows arT:List (List Value)}(q:fT h sl el bo rows (some b))(j6:fT h kS abe PY arT (some b9))(ao:el≠abe):b≠b9:=fun e=>by
 subst e;obtain ⟨_,h1⟩:=q.own;obtain ⟨_,h2⟩:=j6.own;rw [h1] at h2;cases h2;exact ao rfl
def sg(v:Value):List Value:=[v]
def zO(s:iB):List Value:=[aW s.name,b4 s.dQ,b4 s.size,b4 s.iG]
def zP(s:je):List Value:=[aW s.name,b4 s.size,b4 s.gM,b4 s.dQ]
structure hI(h0 h:ab)(B M:List Nat)(bW sv ee eg:Value)(x:ej)(y:Ground):Prop where
 dM:∀d∈B,∃z,h d=some z
 ex:∃vs us av gT ij gU,M=B++(av.toList++(gT.toList++(ij.toList++gU.toList)))/\(∀d,av=some d\/gT=some d\/ij=some d\/gU=some d->d∉B)/\
  fT h bW 46 1 (vs.map sg) av/\fT h sv 49 1 (us.map sg) gT/\fT h ee 51 4 (y.dT.map zO) ij/\fT h eg 53 4 (y.ei.map zP) gU/\
  rm (ju (bB h0 M h)) vs x.cI/\rm (pr (bB h0 M h)) us x.cO
theorem hI.lt{h0 h:ab}{B M:List Nat}{bW sv ee eg:Value}{x:ej}{y:Ground}(q:hI h0 h B M bW sv ee eg x y):∀d∈M,∃z,h d=some z:=by
 obtain ⟨dM,vs,us,av,gT,ij,gU,rfl,_,an,az,aB,aX,_⟩:=q;intro d hd;simp only [List.mem_append,Option.mem_toList] at hd;rcases hd with r|r|r|r|r
 ·exact dM d r
 ·rw [Option.mem_def.1 r] at an;obtain ⟨arr,e⟩:=an.own;exact ⟨_,e⟩
 ·rw [Option.mem_def.1 r] at az;obtain ⟨arr,e⟩:=az.own;exact ⟨_,e⟩
 ·rw [Option.mem_def.1 r] at aB;obtain ⟨arr,e⟩:=aB.own;exact ⟨_,e⟩
 ·rw [Option.mem_def.1 r] at aX;obtain ⟨arr,e⟩:=aX.own;exact ⟨_,e⟩
theorem hI.sub{h0 h:ab}{B M:List Nat}{bW sv ee eg:Value}{x:ej}{y:Ground}(q:hI h0 h B M bW sv ee eg x y):∀d∈B,d∈M:=by
 obtain ⟨dM,vs,us,av,gT,ij,gU,rfl,_⟩:=q;intro d hd;simp [hd]
theorem hI.le{h0 h h':ab}{B M:List Nat}{bW sv ee eg:Value}{x:ej}{y:Ground}(q:hI h0 h B M bW sv ee eg x y)(le:h.aD h'):hI h0 h' B M bW sv ee eg x y:=by
 have bY:=q.lt;obtain ⟨dM,vs,us,av,gT,ij,gU,dJ,ao,an,az,aB,aX,cp,fw⟩:=q;have lm:(bB h0 M h).aD (bB h0 M h'):=BO (fun d z _ aH=>le d z aH) fun d hd=>.inl hd;exact ⟨fun d hd=>let ⟨z,e⟩:=dM d hd;⟨z,le _ _ e⟩,vs,us,av,gT,ij,gU,dJ,ao,an.keep fun b z _ aH=>le b z aH,az.keep fun b z _ aH=>le b z aH,aB.keep fun b z _ aH=>le b z aH,aX.keep fun b z _ aH=>le b z aH,cp.imp fun _ _ r=>dx.le lm r,fw.imp fun _ _ r=>dx.le lm r⟩
theorem hI.put{h0 h:ab}{B M:List Nat}{bW sv ee eg:Value}{x:ej}{y:Ground}{c:Nat}{z:eI}(q:hI h0 h B M bW sv ee eg x y)(hc:c∈B):hI h0 (h.put c z) B M bW sv ee eg x y:=by
 have abf:=q.sub c hc;obtain ⟨dM,vs,us,av,gT,ij,gU,dJ,ao,an,az,aB,aX,cp,fw⟩:=q;have c7:∀b w,b∉B->h b=some w->(h.put c z) b=some w:=fun b w hb hw=>by rw [cG (fun e=>hb (by rw [e];exact hc))];exact hw
 refine ⟨fun d hd=> ?_,vs,us,av,gT,ij,gU,dJ,ao,an.keep fun b w hb hw=>c7 b w (ao b (.inl hb)) hw,az.keep fun b w hb hw=>c7 b w (ao b (.inr (.inl hb))) hw,aB.keep fun b w hb hw=>c7 b w (ao b (.inr (.inr (.inl hb)))) hw,aX.keep fun b w hb hw=>c7 b w (ao b (.inr (.inr (.inr hb)))) hw,by rw [Od abf];exact cp,by rw [Od abf];exact fw⟩;by_cases e:d=c
 ·subst e;exact ⟨_,dd⟩
 ·rw [cG e];exact dM d hd
theorem hI.jK{h0 h:ab}{B M:List Nat}{bW sv ee eg:Value}{x x':ej}{y:Ground}(q:hI h0 h B M bW sv ee eg x y)(e1:x'.cI=x.cI)(e2:x'.cO=x.cO):hI h0 h B M bW sv ee eg x' y:=by
 obtain ⟨dM,vs,us,av,gT,ij,gU,dJ,ao,an,az,aB,aX,cp,fw⟩:=q;exact ⟨dM,vs,us,av,gT,ij,gU,dJ,ao,an,az,aB,aX,by rw [e1];exact cp,by rw [e2];exact fw⟩
theorem hI.start{h0 h:ab}{B:List Nat}(dM:∀d∈B,∃z,h d=some z){a b:Int}:hI h0 h B B (.slice none 0 0) (.slice none 0 0) (.slice none 0 0) (.slice none 0 0) ⟨[],[],a,b⟩ ⟨[],[]⟩:=
 ⟨dM,[],[],none,none,none,none,by simp,by simp,.nil,.nil,.nil,.nil,⟨rfl,by simp⟩,rfl,by simp⟩
theorem rm.snoc{α β:Type}{R:α->β->Prop}{l:List α}{m:List β}{x:α}{y:β}(q:rm R l m)(r:R x y):rm R (l++[x]) (m++[y]):=by
 obtain ⟨h1,h2⟩:=q;refine ⟨by simp [h1],fun i a b aA hb=> ?_⟩;rcases Nat.lt_or_ge i l.length with hi|hi
 ·rw [List.getElem?_append_left hi] at aA;rw [List.getElem?_append_left (by omega)] at hb;exact h2 i a b aA hb
 ·rw [List.getElem?_append_right hi] at aA;rw [List.getElem?_append_right (by omega),<- h1] at hb;cases hk:i- l.length with
  | zero=>rw [hk] at aA hb;simp at aA hb;subst aA;subst hb;exact r
  | succ k=>rw [hk] at aA;simp at aA
theorem abg:cy Tryz.prog 46=some 1:=by kernel_rfl
theorem abh:cy Tryz.prog 49=some 1:=by kernel_rfl
theorem abi:cy Tryz.prog 53=some 4:=by kernel_rfl
theorem at4:bytesOf Tryz.prog 46=some 24:=by kernel_rfl
theorem at5:bytesOf Tryz.prog 49=some 24:=by kernel_rfl
theorem at6:bytesOf Tryz.prog 51=some 40:=by kernel_rfl
theorem at7:bytesOf Tryz.prog 53=some 40:=by kernel_rfl
theorem z46:zeroOf Tryz.prog 46=some (.agg #[.slice none 0 0]):=by kernel_rfl
theorem z49:zeroOf Tryz.prog 49=some (.agg #[.slice none 0 0]):=by kernel_rfl
theorem z53:zeroOf Tryz.prog 53=some (.agg #[.string .empty,.int .i64 0,.int .i64 0,.int .i64 0]):=by kernel_rfl
theorem YB:(Array.range (1*1)).map (fun i=>(Value.cells (.agg #[.slice none 0 0]))[i%(Value.cells (.agg #[.slice none 0 0])).size]!)=#[.slice none 0 0]:=by kernel_rfl
theorem YC:(Array.range (1*4)).map (fun i=>(Value.cells (.agg #[.string .empty,.int .i64 0,.int .i64 0,.int .i64 0]))[i%(Value.cells (.agg #[.string .empty,.int .i64 0,.int .i64 0,.int .i64 0])).size]!)=#[.string .empty,.int .i64 0,.int .i64 0,.int .i64 0]:=by kernel_rfl
theorem apc{h:ab}{a:Option Addr}{n m:Nat}{K:Value->ab->Prop}(k:∀c h1,h c=none->h1=h.put c ⟨.cells ⟨sg (.slice a n m)⟩ 46 (0,0),true⟩->K (eO c 0 1 1) h1):@au Tryz.prog _ (Instr.buildSlice 22 1 #[(0,.agg #[.slice a n m])]) h ⟨K⟩:=by
 simp only [au,Instr.buildSlice,aV,df,Tryz.underlying22,gL,abg,iD,z46,bh];rw [if_neg (by decide),if_neg (by decide)];simp only [aV,iD,z46,bh,YB];intro c hc;exact k c _ hc rfl
theorem apd{h:ab}{a:Option Addr}{n m:Nat}{K:Value->ab->Prop}(k:∀c h1,h c=none->h1=h.put c ⟨.cells ⟨sg (.slice a n m)⟩ 49 (0,0),true⟩->K (eO c 0 1 1) h1):@au Tryz.prog _ (Instr.buildSlice 23 1 #[(0,.agg #[.slice a n m])]) h ⟨K⟩:=by
 simp only [au,Instr.buildSlice,aV,df,Tryz.underlying23,gL,abh,iD,z49,bh];rw [if_neg (by decide),if_neg (by decide)];simp only [aV,iD,z49,bh,YB];intro c hc;exact k c _ hc rfl
theorem ape{h:ab}{w:iB}{K:Value->ab->Prop}(k:∀c h1,h c=none->h1=h.put c ⟨.cells ⟨zO w⟩ 51 (0,0),true⟩->K (eO c 0 1 1) h1):@au Tryz.prog _ (Instr.buildSlice 26 1 #[(0,.agg #[.string ⟨⟨w.name⟩⟩,.int .i64 w.dQ,.int .i64 w.size,.int .i64 w.iG])]) h ⟨K⟩:=by
 simp only [au,Instr.buildSlice,aV,df,Tryz.underlying26,gL,QY,iD,z51,bh];rw [if_neg (by decide),if_neg (by decide)];simp only [aV,iD,z51,bh,YC];intro c hc;exact k c _ hc rfl
theorem apf{h:ab}{w:je}{K:Value->ab->Prop}(k:∀c h1,h c=none->h1=h.put c ⟨.cells ⟨zP w⟩ 53 (0,0),true⟩->K (eO c 0 1 1) h1):@au Tryz.prog _ (Instr.buildSlice 27 1 #[(0,.agg #[.string ⟨⟨w.name⟩⟩,.int .i64 w.size,.int .i64 w.gM,.int .i64 w.dQ])]) h ⟨K⟩:=by
 simp only [au,Instr.buildSlice,aV,df,Tryz.underlying27,gL,abi,iD,z53,bh];rw [if_neg (by decide),if_neg (by decide)];simp only [aV,iD,z53,bh,YC];intro c hc;exact k c _ hc rfl
section
variable{h0 h:ab}{B M:List Nat}{bW sv ee eg:Value}{x:ej}{y:Ground}{bV sX ty:Nat}{K:Value->ab->Prop}
theorem aua(q:hI h0 h B M bW sv ee eg x y)(af:x.cI.length<=150){a:Option Addr}{n c:Nat}{ns:List Int}(hi:ju h (.slice a n c) ns)(aP:∀A,a=some A->A.block∉M/\h0 A.block=none)(g2:h.iU ⟨bV,0,none⟩ 0 (1*1)=some (sg (.slice a n c)))
  (k:∀mo h' gZ,hI h0 h' B gZ mo sv ee eg {x with cI:=x.cI++[ns]} y->(∀d z,d∉M->h d=some z->h' d=some z)->(∀d,d∈gZ->d∈M\/h d=none)->(∀d∈B,h' d=h d)->(∃a n c,mo=.slice a n c)->K mo h'):
  @au Tryz.prog _ (Builtin.append_ #[22,22] ty #[bW,eO bV 0 1 sX]) h ⟨K⟩:=by
 have bY:=q.lt;obtain ⟨dM,vs,us,av,gT,ij,gU,dJ,ao,an,az,aB,aX,cp,fw⟩:=q;have nb:(vs.map sg).length<=150:=by simp;have:=cp.1;omega
 refine z8 (row:=sg (.slice a n c)) Tryz.underlying22 abg at4 z46 rfl (by decide) (by decide) (by decide) an rfl rfl nb g2 fun mo h' I5 k1 bX r1=> ?_;have out:∀d z,d∉M->h d=some z->h' d=some z:=fun d z hd aH=>k1 d z (fun e=>hd (by rw [dJ,e];simp)) aH;have eb:∀d,d∈B++(I5.toList++(gT.toList++(ij.toList++gU.toList)))->d∈M\/h d=none:=fun d hd=>by
  rcases bX with e|⟨b9,e,dW⟩
  ·rw [e,<- dJ] at hd;exact .inl hd
  ·simp only [List.mem_append,Option.mem_toList] at hd;rw [dJ];simp only [List.mem_append,Option.mem_toList];rcases hd with r|r|r|r|r
   ·exact .inl (.inl r)
   ·rw [e] at r;cases r;exact .inr dW
   ·exact .inl (.inr (.inr (.inl r)))
   ·exact .inl (.inr (.inr (.inr (.inl r))))
   ·exact .inl (.inr (.inr (.inr (.inr (r)))))
 have hN:∀d∈B,h' d=h d:=fun d hd=>by
  obtain ⟨z,aH⟩:=dM d hd;rw [aH];exact k1 d z (fun e=>ao d (.inl e) hd) aH
 have lm:(bB h0 M h).aD (bB h0 (B++(I5.toList++(gT.toList++(ij.toList++gU.toList)))) h'):=BO out eb;refine k mo h' (B++(I5.toList++(gT.toList++(ij.toList++gU.toList)))) ⟨fun d hd=>by rw [hN d hd];exact dM d hd,vs++[.slice a n c],us,I5,gT,ij,gU,rfl,fun d hd=> ?_,?_,?_,?_,?_,?_,?_⟩ out eb hN r1.slice
 ·rcases hd with e|e|e|e
  ·rcases bX with e2|⟨b9,e2,dW⟩
   ·exact ao d (.inl (e2▸e))
   ·rw [e] at e2;cases e2;exact fun hd=>by obtain ⟨z,aH⟩:=dM d hd;rw [dW] at aH;cases aH
  ·exact ao d (.inr (.inl e))
  ·exact ao d (.inr (.inr (.inl e)))
  ·exact ao d (.inr (.inr (.inr e)))
 ·rw [List.map_append];exact r1
 ·exact az.keep fun b z hb aH=>k1 b z (fun e=>by subst e;subst hb;exact fT.ne an az (by decide) rfl) aH
 ·exact aB.keep fun b z hb aH=>k1 b z (fun e=>by subst e;subst hb;exact fT.ne an aB (by decide) rfl) aH
 ·exact aX.keep fun b z hb aH=>k1 b z (fun e=>by subst e;subst hb;exact fT.ne an aX (by decide) rfl) aH
 ·exact (cp.imp fun _ _ r=>dx.le lm r).snoc (dx.le lm (Ho hi aP))
 ·exact fw.imp fun _ _ r=>dx.le lm r
theorem aub(q:hI h0 h B M bW sv ee eg x y)(af:x.cO.length<=150){a:Option Addr}{n c:Nat}{ns:List (Int×Int)}(hi:pr h (.slice a n c) ns)(aP:∀A,a=some A->A.block∉M/\h0 A.block=none)(g2:h.iU ⟨bV,0,none⟩ 0 (1*1)=some (sg (.slice a n c)))
  (k:∀ou h' gZ,hI h0 h' B gZ bW ou ee eg {x with cO:=x.cO++[ns]} y->(∀d z,d∉M->h d=some z->h' d=some z)->(∀d,d∈gZ->d∈M\/h d=none)->(∀d∈B,h' d=h d)->(∃a n c,ou=.slice a n c)->K ou h'):
  @au Tryz.prog _ (Builtin.append_ #[23,23] ty #[sv,eO bV 0 1 sX]) h ⟨K⟩:=by
 have bY:=q.lt;obtain ⟨dM,vs,us,av,gT,ij,gU,dJ,ao,an,az,aB,aX,cp,fw⟩:=q;have nb:(us.map sg).length<=150:=by simp;have:=fw.1;omega
 refine z8 (row:=sg (.slice a n c)) Tryz.underlying23 abh at5 z49 rfl (by decide) (by decide) (by decide) az rfl rfl nb g2 fun ou h' I6 k1 bX r1=> ?_;have out:∀d z,d∉M->h d=some z->h' d=some z:=fun d z hd aH=>k1 d z (fun e=>hd (by rw [dJ,e];simp)) aH;have eb:∀d,d∈B++(av.toList++(I6.toList++(ij.toList++gU.toList)))->d∈M\/h d=none:=fun d hd=>by
  rcases bX with e|⟨b9,e,dW⟩
  ·rw [e,<- dJ] at hd;exact .inl hd
  ·simp only [List.mem_append,Option.mem_toList] at hd;rw [dJ];simp only [List.mem_append,Option.mem_toList];rcases hd with r|r|r|r|r
   ·exact .inl (.inl r)
   ·exact .inl (.inr (.inl r))
   ·rw [e] at r;cases r;exact .inr dW
   ·exact .inl (.inr (.inr (.inr (.inl r))))
   ·exact .inl (.inr (.inr (.inr (.inr (r)))))
 have hN:∀d∈B,h' d=h d:=fun d hd=>by
  obtain ⟨z,aH⟩:=dM d hd;rw [aH];exact k1 d z (fun e=>ao d (.inr (.inl e)) hd) aH
 have lm:(bB h0 M h).aD (bB h0 (B++(av.toList++(I6.toList++(ij.toList++gU.toList)))) h'):=BO out eb;refine k ou h' (B++(av.toList++(I6.toList++(ij.toList++gU.toList)))) ⟨fun d hd=>by rw [hN d hd];exact dM d hd,vs,us++[.slice a n c],av,I6,ij,gU,rfl,fun d hd=> ?_,?_,?_,?_,?_,?_,?_⟩ out eb hN r1.slice
 ·rcases hd with e|e|e|e
  ·exact ao d (.inl e)
  ·rcases bX with e2|⟨b9,e2,dW⟩
   ·exact ao d (.inr (.inl (e2▸e)))
   ·rw [e] at e2;cases e2;exact fun hd=>by obtain ⟨z,aH⟩:=dM d hd;rw [dW] at aH;cases aH
  ·exact ao d (.inr (.inr (.inl e)))
  ·exact ao d (.inr (.inr (.inr e)))
 ·exact an.keep fun b z hb aH=>k1 b z (fun e=>by subst e;subst hb;exact fT.ne az an (by decide) rfl) aH
 ·rw [List.map_append];exact r1
 ·exact aB.keep fun b z hb aH=>k1 b z (fun e=>by subst e;subst hb;exact fT.ne az aB (by decide) rfl) aH
 ·exact aX.keep fun b z hb aH=>k1 b z (fun e=>by subst e;subst hb;exact fT.ne az aX (by decide) rfl) aH
 ·exact cp.imp fun _ _ r=>dx.le lm r
 ·exact (fw.imp fun _ _ r=>dx.le lm r).snoc (dx.le lm (Ho hi aP))
theorem auc(q:hI h0 h B M bW sv ee eg x y)(af:y.dT.length<=150){w:iB}(g2:h.iU ⟨bV,0,none⟩ 0 (1*4)=some (zO w))
  (k:∀nL h' gZ,hI h0 h' B gZ bW sv nL eg x {y with dT:=y.dT++[w]}->(∀d z,d∉M->h d=some z->h' d=some z)->(∀d,d∈gZ->d∈M\/h d=none)->(∀d∈B,h' d=h d)->(∃a n c,nL=.slice a n c)->K nL h'):
  @au Tryz.prog _ (Builtin.append_ #[26,26] ty #[ee,eO bV 0 1 sX]) h ⟨K⟩:=by
 have bY:=q.lt;obtain ⟨dM,vs,us,av,gT,ij,gU,dJ,ao,an,az,aB,aX,cp,fw⟩:=q;have nb:(y.dT.map zO).length<=150:=by simp;omega
 refine z8 (row:=zO w) Tryz.underlying26 QY at6 z51 rfl (by decide) (by decide) (by decide) aB rfl rfl nb g2 fun nL h' DL k1 bX r1=> ?_;have out:∀d z,d∉M->h d=some z->h' d=some z:=fun d z hd aH=>k1 d z (fun e=>hd (by rw [dJ,e];simp)) aH;have eb:∀d,d∈B++(av.toList++(gT.toList++(DL.toList++gU.toList)))->d∈M\/h d=none:=fun d hd=>by
  rcases bX with e|⟨b9,e,dW⟩
  ·rw [e,<- dJ] at hd;exact .inl hd
  ·simp only [List.mem_append,Option.mem_toList] at hd;rw [dJ];simp only [List.mem_append,Option.mem_toList];rcases hd with r|r|r|r|r
   ·exact .inl (.inl r)
   ·exact .inl (.inr (.inl r))
   ·exact .inl (.inr (.inr (.inl r)))
   ·rw [e] at r;cases r;exact .inr dW
   ·exact .inl (.inr (.inr (.inr (.inr (r)))))
 have hN:∀d∈B,h' d=h d:=fun d hd=>by
  obtain ⟨z,aH⟩:=dM d hd;rw [aH];exact k1 d z (fun e=>ao d (.inr (.inr (.inl e))) hd) aH
 have lm:(bB h0 M h).aD (bB h0 (B++(av.toList++(gT.toList++(DL.toList++gU.toList)))) h'):=BO out eb;refine k nL h' (B++(av.toList++(gT.toList++(DL.toList++gU.toList)))) ⟨fun d hd=>by rw [hN d hd];exact dM d hd,vs,us,av,gT,DL,gU,rfl,fun d hd=> ?_,?_,?_,?_,?_,?_,?_⟩ out eb hN r1.slice
 ·rcases hd with e|e|e|e
  ·exact ao d (.inl e)
  ·exact ao d (.inr (.inl e))
  ·rcases bX with e2|⟨b9,e2,dW⟩
   ·exact ao d (.inr (.inr (.inl (e2▸e))))
   ·rw [e] at e2;cases e2;exact fun hd=>by obtain ⟨z,aH⟩:=dM d hd;rw [dW] at aH;cases aH
  ·exact ao d (.inr (.inr (.inr e)))
 ·exact an.keep fun b z hb aH=>k1 b z (fun e=>by subst e;subst hb;exact fT.ne aB an (by decide) rfl) aH
 ·exact az.keep fun b z hb aH=>k1 b z (fun e=>by subst e;subst hb;exact fT.ne aB az (by decide) rfl) aH
 ·show fT h' nL 51 4 ((y.dT++[w]).map zO) DL;rw [List.map_append];exact r1
 ·exact aX.keep fun b z hb aH=>k1 b z (fun e=>by subst e;subst hb;exact fT.ne aB aX (by decide) rfl) aH
 ·exact cp.imp fun _ _ r=>dx.le lm r
 ·exact fw.imp fun _ _ r=>dx.le lm r
theorem aud(q:hI h0 h B M bW sv ee eg x y)(af:y.ei.length<=150){w:je}(g2:h.iU ⟨bV,0,none⟩ 0 (1*4)=some (zP w))
  (k:∀nM h' gZ,hI h0 h' B gZ bW sv ee nM x {y with ei:=y.ei++[w]}->(∀d z,d∉M->h d=some z->h' d=some z)->(∀d,d∈gZ->d∈M\/h d=none)->(∀d∈B,h' d=h d)->(∃a n c,nM=.slice a n c)->K nM h'):
  @au Tryz.prog _ (Builtin.append_ #[27,27] ty #[eg,eO bV 0 1 sX]) h ⟨K⟩:=by
 have bY:=q.lt;obtain ⟨dM,vs,us,av,gT,ij,gU,dJ,ao,an,az,aB,aX,cp,fw⟩:=q;have nb:(y.ei.map zP).length<=150:=by simp;omega
 refine z8 (row:=zP w) Tryz.underlying27 abi at7 z53 rfl (by decide) (by decide) (by decide) aX rfl rfl nb g2 fun nM h' DN k1 bX r1=> ?_;have out:∀d z,d∉M->h d=some z->h' d=some z:=fun d z hd aH=>k1 d z (fun e=>hd (by rw [dJ,e];simp)) aH;have eb:∀d,d∈B++(av.toList++(gT.toList++(ij.toList++DN.toList)))->d∈M\/h d=none:=fun d hd=>by
  rcases bX with e|⟨b9,e,dW⟩
  ·rw [e,<- dJ] at hd;exact .inl hd
  ·simp only [List.mem_append,Option.mem_toList] at hd;rw [dJ];simp only [List.mem_append,Option.mem_toList];rcases hd with r|r|r|r|r
   ·exact .inl (.inl r)
   ·exact .inl (.inr (.inl r))
   ·exact .inl (.inr (.inr (.inl r)))
   ·exact .inl (.inr (.inr (.inr (.inl r))))
   ·rw [e] at r;cases r;exact .inr dW
 have hN:∀d∈B,h' d=h d:=fun d hd=>by
  obtain ⟨z,aH⟩:=dM d hd;rw [aH];exact k1 d z (fun e=>ao d (.inr (.inr (.inr e))) hd) aH
 have lm:(bB h0 M h).aD (bB h0 (B++(av.toList++(gT.toList++(ij.toList++DN.toList)))) h'):=BO out eb;refine k nM h' (B++(av.toList++(gT.toList++(ij.toList++DN.toList)))) ⟨fun d hd=>by rw [hN d hd];exact dM d hd,vs,us,av,gT,ij,DN,rfl,fun d hd=> ?_,?_,?_,?_,?_,?_,?_⟩ out eb hN r1.slice
 ·rcases hd with e|e|e|e
  ·exact ao d (.inl e)
  ·exact ao d (.inr (.inl e))
  ·exact ao d (.inr (.inr (.inl e)))
  ·rcases bX with e2|⟨b9,e2,dW⟩
   ·exact ao d (.inr (.inr (.inr (e2▸e))))
   ·rw [e] at e2;cases e2;exact fun hd=>by obtain ⟨z,aH⟩:=dM d hd;rw [dW] at aH;cases aH
 ·exact an.keep fun b z hb aH=>k1 b z (fun e=>by subst e;subst hb;exact fT.ne aX an (by decide) rfl) aH
 ·exact az.keep fun b z hb aH=>k1 b z (fun e=>by subst e;subst hb;exact fT.ne aX az (by decide) rfl) aH
 ·exact aB.keep fun b z hb aH=>k1 b z (fun e=>by subst e;subst hb;exact fT.ne aX aB (by decide) rfl) aH
 ·show fT h' nM 53 4 ((y.ei++[w]).map zP) DN;rw [List.map_append];exact r1
 ·exact cp.imp fun _ _ r=>dx.le lm r
 ·exact fw.imp fun _ _ r=>dx.le lm r
end
end
end Go.Nk
