/- Part Pan of the proof of ButtBack: lemmas. -/
import Derived.Conc.SmallLaws
import Derived.Test.YthgephlghkjiaaaGreatDoorPam
set_option maxRecDepth 100000
set_option maxHeartbeats 4000000
set_option linter.all false
namespace Go.Nk
noncomputable section
open Go Go.Conc Go.Proofs
def Nn:FuncId->List Value->aL->Option (Value×aL):=fun _ _ _=>none
def Dd:List (Nat×Value)->cJ
 | []=>.nil
 | x::l=>(Dd l).put (some x.1) x.2
section
variable{main:Bool}{ah:Type}{Sy:Sys ah}{s:ah}{h:ab}{b:bn}{e:Env}{d:List Deferred}{N:Env->List Deferred->ah->ab->Prop}
theorem FG{cbs:List cn}{bs:List (Nat×Nat)}{o:Oper}{xo:dr}{E:cJ}{v:Value}{H':aL}(hc:q0 Tryz.prog o=xo)(aa:cA Nn E (gn cbs) xo=some (v,H'))
  (af:bs.length=cbs.length) (fK:∀(i j b k k':Nat),bs[i]? =some (b,k)->bs[j]? =some (b,k')->i=j) (hb:∀(i:Nat) (x:cn) (b k:Nat),cbs[i]? =some x->bs[i]? =some (b,k)->Bk Tryz.prog (ia bs) k x (h b))
  (bO:∀x∈xo.dq,bw (ia bs) (b5 E x) (aS e x))
  (uR:∀bA h' bQ,(ia bs).aD bA->h.aD h'->cD Tryz.prog 12 bA H'.get H'.ar h'->bw bA v bQ->(∀c x b k,H'.get c=some x->12+cbs.length<=c->x.live=true->bA c=some (b,k)->h b=none)->N (cv e o.dst bQ) d s h'):b3 Tryz.prog main Sy b o e d s h N:=by
 subst hc;have nw:∀c,¬gH (gn cbs) c:=fun c ⟨w1,y,w2,_⟩=>by
  rw [Fj] at w1;rw [zm] at w2;split at w2
  ·cases w2
  ·have:=(List.getElem?_eq_some_iff.1 w2).1;omega
 refine J8 (J:=fun ai=>ai=s) (call:=Nn) aa (Uw af fK hb) (by rw [xa];omega) rfl (fun f xs v H H' aa=>by cases aa) bO fun ai bA h' bQ e1 e2 e3 e4=> ?_;subst e1;refine uR bA h' bQ e4.le (fun b x CS=>e4.mq b x CS fun c k hw _=>nw c hw) e2 e3 fun c x b k h1 h2 h3 h4=> ?_;rcases e4.lW c x b k h1 (by rw [xa];exact h2) h3 h4 with q|⟨dK,k0,q,_⟩
 ·exact q
 ·exact absurd q (nw dK)
end
section
variable{main:Bool}{ah:Type}{Sy:Sys ah}{s:ah}{h:ab}{b:bn}
theorem air{ap bp yp np l p k:Nat}{bR:Int}{o:Bool}{x y:b6}{Z:ah->Prop}(aa:x∈dv)(ax:y∈dv)(C:Ctx h ap bp yp np l bR)(aK:hO h p k [x,y] o)(aH:bR<gO 0 [x,y]->Z s)(Y:gO 0 [x,y]<=bR->qd main Sy l x y s h Z):
  bI Tryz.prog main Sy 141 #[.slice (some ⟨p,0,none⟩) 2 k,br ap,br bp,br yp,br np] s h fun ai h' v=>Z ai/\h.aD h'/\v=.bool true:=by
 by_cases v7:gO 0 [x,y]<=bR
 ·exact afU aa ax C aK v7 (Y v7)
 refine cc (n:=50) (args:=[.slice (some ⟨p,0,none⟩) 2 k,br ap,br bp,br yp,br np]) Tryz.func141 Kd rfl (by simp) Lq ?_;simp only [bc,undef,seval,KL,KJ,Kc,Kb];intro t;refine Pm (p0:=p) (m0:=2) (k0:=k) (bR:=bR) (l:=l) rfl (by simp [aZ,dE]) (by simp [aZ,dE]) C (fun h1 bx=>V7 aa ax (aK.le bx)) (fun e1 h1 bx sK v8=> ?_) t;have hd:decide (gO 0 [x,y]>bR)=true:=by simp;omega
 rw [hd] at v8;simp only [bc,undef,seval,Ka,ae7,v8];refine bT Tryz.results141 (by simp) ?_;exact ⟨aH (by omega),bx,by simp [aZ]⟩
def qh(h:ab)(p:Nat)(x:b6)(o:Bool):Prop:=h p=some ⟨.cells (iw [x]).toArray 57 (0,0),o⟩
theorem E5{ρ:bq}{h:ab}{p k:Nat}{x:b6}{o:Bool}(q:qh h p x o):Bk Tryz.prog ρ k (tB [x]) (h p):=
 ⟨_,o,iw [x],[],q,(by intro q;cases q),by simp,Fl ρ _,fun _=>rfl,by intro q;cases q⟩
theorem aqg{e:Env}{d:List Deferred}{N:Env->List Deferred->ah->ab->Prop}{ap bp yp np l p:Nat}{bR:Int}{o:Bool}{x:b6}{i j:Int}{Z:ah->Prop}(e0:e 0=.slice (some ⟨p,0,none⟩) 1 1)(e4:e 4=br np)(e7:e 7=.int .i64 i)(cH:e 8=.int .i64 j)(C:Ctx h ap bp yp np l bR)
  (aK:qh h p x o) (ay2:∀h1 q k,h.aD h1->h q=none->hO h1 q k [x,(i,j)] true->bI Tryz.prog main Sy 141 #[.slice (some ⟨q,0,none⟩) 2 k,br ap,br bp,br yp,br np] s h1 fun ai h' v=>Z ai/\h1.aD h'/\v=.bool true)
  (fin:∀e' ai h',h.aD h'->(∀t,t<34->e' t=e t)->Z ai->e' 47=.bool false->N e' d ai h') (t:Nat):
  gk Tryz.prog main Sy b wW.toArray (Region.schedule (Tryz.prog.follows .mixedOrders) wW.toArray t) e d s h N:=by
 refine EO (l:=wW) rfl rfl hR 12 (fun c n v h'=>match n with
   | 0=>v=oK ap bp yp np
   | 1=>v=.slice (some ⟨p,0,none⟩) 1 1
   | 2=>v=.slice (some ⟨p,0,none⟩) 1 1
   | 3=>v=.int .i64 1
   | 4=>v=.slice (some ⟨p,0,none⟩) 1 1
   | 5=>v=.int .i64 1
   | 6=>v=.slice (some ⟨p,0,none⟩) 1 1
   | 7=>v=.int .i64 i
   | 8=>v=.int .i64 j
   | 9=>v=.agg #[.int .i64 i,.int .i64 j]
   | 10=>∃q,v=.slice (some ⟨q,0,none⟩) 1 1/\q≠p/\qh h' q (i,j) true
   | 11=>∃q k,v=.slice (some ⟨q,0,none⟩) 2 k/\h q=none/\hO h' q k [x,(i,j)] true
   | 12=>v=.bool true
   | 13=>v=.bool false
   | _=>True) (fun c n v h' oT le q=>by
    match n with
    | 0|1|2|3|4|5|6|7|8|9|12|13=>exact q
    | 10=>obtain ⟨an,a1,a2,a3⟩:=q;exact ⟨an,a1,a2,le _ _ a3⟩
    | 11=>obtain ⟨an,k1,a1,a2,a3⟩:=q;exact ⟨an,k1,a1,a2,a3.le le⟩
    | n+14=>trivial)
  (fun c ai=>if c then Z ai else ai=s) (fun h1 h'=>h1.aD h') (fun h1 h' a q=>le_trans a q) (fun n v h' oT le q=>by
    match n with
    | 0|1|2|3|4|5|6|7|8|9|12|13=>exact q
    | 10=>obtain ⟨an,a1,a2,a3⟩:=q;exact ⟨an,a1,a2,le _ _ a3⟩
    | 11=>obtain ⟨an,k1,a1,a2,a3⟩:=q;exact ⟨an,k1,a1,a2,a3.le le⟩
    | n+14=>trivial) rfl ?_ ?_ t
 ·intro n aO hi e' ai h1 bx un c dX af pre;have x0:e' 0=.slice (some ⟨p,0,none⟩) 1 1:=by rw [un 0 rfl,e0]
  have avQ:e' 4=br np:=by rw [un 4 rfl,e4]
  have avR:e' 7=.int .i64 i:=by rw [un 7 rfl,e7]
  have avS:e' 8=.int .i64 j:=by rw [un 8 rfl,cH]
  have fresh:∀q,h1 q=none->h q=none:=fun q aE=>by
   cases hh:h q with
   | none=>rfl
   | some x=>rw [bx _ _ hh] at aE;cases aE
  match n,hi with
  | 0,hi=>
   cases hi;obtain ⟨o1,aA⟩:=(C.le bx).n;simp only [b3,gF,bc,undef,seval,avQ,br];rw [jN (K:=⟨_⟩) Oz (A:=⟨np,0,none⟩) aA rfl rfl];exact ⟨rfl,_,rfl,rfl,fun _ _ e=>e,rfl⟩
  | 1,hi=>
   cases hi;simp only [b3,gF,bc,undef,seval,x0];exact ⟨trivial,_,rfl,trivial,fun _ _ e=>e,rfl⟩
  | 2,hi=>
   cases hi;simp only [b3,gF,bc,undef,seval,x0];exact ⟨trivial,_,rfl,trivial,fun _ _ e=>e,rfl⟩
  | 3,hi=>
   cases hi;have q:e' 36=.slice (some ⟨p,0,none⟩) 1 1:=pre 2 36 rfl rfl;simp only [b3,gF,bc,undef,seval,List.map_cons,List.map_nil,q,HD];exact ⟨trivial,_,rfl,trivial,fun _ _ e=>e,rfl⟩
  | 4,hi=>
   cases hi;simp only [b3,gF,bc,undef,seval,x0];exact ⟨trivial,_,rfl,trivial,fun _ _ e=>e,rfl⟩
  | 5,hi=>
   cases hi;have q:e' 38=.slice (some ⟨p,0,none⟩) 1 1:=pre 4 38 rfl rfl;simp only [b3,gF,bc,undef,seval,List.map_cons,List.map_nil,q,HD];exact ⟨trivial,_,rfl,trivial,fun _ _ e=>e,rfl⟩
  | 6,hi=>
   cases hi;have an:e' 35=.slice (some ⟨p,0,none⟩) 1 1:=pre 1 35 rfl rfl;have az:e' 37=.int .i64 1:=pre 3 37 rfl rfl;have aB:e' 39=.int .i64 1:=pre 5 39 rfl rfl;refine FG (cbs:=[tB [x]]) (bs:=[(p,1)]) (E:=Dd [(35,sF [x]),(37,.int .i64 1),(39,.int .i64 1)]) (xo:=.sl 57 2 (.tmp 35) none (some (.tmp 37)) (some (.tmp 39))) (v:=sF [x]) (H':=gn [tB [x]]) (by kernel_rfl) (by kernel_rfl) rfl Is (fun i x b9 k' h1 h2=>by
    match i with
    | 0=>simp at h1 h2;obtain ⟨rfl,rfl⟩:=h2;subst h1;exact E5 (bx _ _ aK)
    | i+1=>simp at h1) (fun z aH=> ?_) (fun bA h' bQ wC le S yE aY=> ?_)
   ·simp only [dr.dq,Option.toList,List.nil_append,List.cons_append,List.mem_cons,List.not_mem_nil,or_false] at aH;rcases aH with rfl|rfl|rfl
    ·show bw _ (sF [x]) (e' 35);rw [an];exact bw.sl (ρ:=ia [(p,1)]) (c:=12) (b:=p) (k:=1) 0 1 1 rfl
    ·show bw _ (.int .i64 1) (e' 37);rw [az];exact .int _ _
    ·show bw _ (.int .i64 1) (e' 39);rw [aB];exact .int _ _
   ·refine ⟨rfl,_,rfl,rfl,le,?_⟩
    match bQ,yE with
    | _,.sl (b:=cl) (k:=k1) _ _ _ e'=>
     rw [wC 12 (p,1) rfl] at e';cases e';rfl
  | 7,hi=>
   cases hi;simp only [b3,gF,bc,undef,seval,avR];exact ⟨trivial,_,rfl,trivial,fun _ _ e=>e,rfl⟩
  | 8,hi=>
   cases hi;simp only [b3,gF,bc,undef,seval,avS];exact ⟨trivial,_,rfl,trivial,fun _ _ e=>e,rfl⟩
  | 9,hi=>
   cases hi;have an:e' 41=.int .i64 i:=pre 7 41 rfl rfl;have az:e' 42=.int .i64 j:=pre 8 42 rfl rfl;refine FG (cbs:=[]) (bs:=[]) (E:=Dd [(41,.int .i64 i),(42,.int .i64 j)]) (xo:=.build [.int .i64 0,.int .i64 0] [(0,1,(.tmp 41)),(1,1,(.tmp 42))]) (v:=.agg ⟨[.int .i64 i,.int .i64 j]⟩) (H':=gn []) (by kernel_rfl) (by kernel_rfl) rfl (fun i j b k k' h1 h2=>by simp at h1) (fun i x b9 k' h1 h2=>by simp at h1) (fun z aH=> ?_) (fun bA h' bQ wC le S yE aY=> ?_)
   ·simp only [dr.dq,List.map_cons,List.map_nil,List.mem_cons,List.not_mem_nil,or_false] at aH;rcases aH with rfl|rfl
    ·show bw _ (.int .i64 i) (e' 41);rw [an];exact .int _ _
    ·show bw _ (.int .i64 j) (e' 42);rw [az];exact .int _ _
   ·refine ⟨rfl,_,rfl,rfl,le,?_⟩
    match bQ,yE with
    | _,.agg (.cons (.int _ _) (.cons (.int _ _) .nil))=>rfl
  | 10,hi=>
   cases hi;have an:e' 43=.agg #[.int .i64 i,.int .i64 j]:=pre 9 43 rfl rfl;refine FG (cbs:=[]) (bs:=[]) (E:=Dd [(43,.agg ⟨[.int .i64 i,.int .i64 j]⟩)]) (xo:=.buildSlice 57 2 1 [.int .i64 0,.int .i64 0] [(0,2,(.tmp 43))]) (v:=.slice (some ⟨12,0,none⟩) 1 1) (H':=(gn []).new (.cs true false 57 [.int .i64 i,.int .i64 j])) (by kernel_rfl) (by kernel_rfl) rfl (fun i j b k k' h1 h2=>by simp at h1) (fun i x b9 k' h1 h2=>by simp at h1) (fun z aH=> ?_) (fun bA h' bQ wC le S yE aY=> ?_)
   ·simp only [dr.dq,List.map_cons,List.map_nil,List.mem_cons,List.not_mem_nil,or_false] at aH;subst aH;show bw _ (.agg ⟨[.int .i64 i,.int .i64 j]⟩) (e' 43);rw [an];exact .agg (.cons (.int _ _) (.cons (.int _ _) .nil))
   ·have aG:((gn []).new (.cs true false 57 [.int .i64 i,.int .i64 j])).get 12=some (.cs true false 57 [.int .i64 i,.int .i64 j]):=by kernel_rfl
    obtain ⟨j6,k',r1,arr,fr,b2,rest,hr,z2,z3,z4,z5,acg⟩:=S.blk 12 _ aG;have Qv:=z2 rfl;subst Qv;have avT:=z5 rfl;subst avT;have aP:=aY 12 _ j6 k' aG (by simp) rfl r1;refine ⟨rfl,_,rfl,rfl,le,?_⟩
    match bQ,yE with
    | _,.sl (b:=cl) (k:=k1) _ _ _ e'=>
     rw [r1] at e';cases e';refine ⟨j6,rfl,(fun e=>by subst e;rw [bx _ _ aK] at aP;cases aP),?_⟩;have:arr=(iw [(i,j)]).toArray:=by
      apply Array.toList_inj.1;rw [z3]
      match b2,z4 with
      | _,.cons (.int _ _) (.cons (.int _ _) .nil)=>rfl
     rw [this] at hr;exact hr
  | 11,hi=>
   cases hi;have an:e' 40=.slice (some ⟨p,0,none⟩) 1 1:=pre 6 40 rfl rfl;obtain ⟨q,az,aB,aX⟩:=(show ∃q,e' 44=.slice (some ⟨q,0,none⟩) 1 1/\q≠p/\qh h1 q (i,j) true from pre 10 44 rfl rfl);have hk:F2 (cA Nn (Dd [(40,.slice (some ⟨12,0,none⟩) 1 1),(44,.slice (some ⟨13,0,none⟩) 1 1)]) (gn [tB [x],tB [(i,j)]]) (.app 57 2 16 (.tmp 40) (.tmp 44)))=some (14,0,2,dj,some (.cs true true 57 (iw [x,(i,j)]))):=by kernel_rfl
   unfold F2 at hk;split at hk
   ·rename_i aR o1 db k1 H' aa;simp only [Option.some.injEq,Prod.mk.injEq] at hk;obtain ⟨rfl,rfl,rfl,rfl,aG⟩:=hk;refine FG (cbs:=[tB [x],tB [(i,j)]]) (bs:=[(p,1),(q,1)]) (xo:=.app 57 2 16 (.tmp 40) (.tmp 44)) (by kernel_rfl) aa rfl (Z3 (Ne.symm aB)) (fun i x b9 k' h1 h2=>by
     match i with
     | 0=>simp at h1 h2;obtain ⟨rfl,rfl⟩:=h2;subst h1;exact E5 (bx _ _ aK)
     | 1=>simp at h1 h2;obtain ⟨rfl,rfl⟩:=h2;subst h1;exact E5 aX
     | i+2=>simp at h1) (fun z aH=> ?_) (fun bA h' bQ wC le S yE aY=> ?_)
    ·simp only [dr.dq,List.mem_cons,List.not_mem_nil,or_false] at aH;rcases aH with rfl|rfl
     ·show bw _ (.slice (some ⟨12,0,none⟩) 1 1) (e' 40);rw [an];exact bw.sl (ρ:=ia [(p,1),(q,1)]) (c:=12) (b:=p) (k:=1) 0 1 1 rfl
     ·show bw _ (.slice (some ⟨13,0,none⟩) 1 1) (e' 44);rw [az];exact bw.sl (ρ:=ia [(p,1),(q,1)]) (c:=13) (b:=q) (k:=1) 0 1 1 rfl
    ·obtain ⟨j6,k',r1,arr,fr,b2,rest,hr,z2,z3,z4,z5,acg⟩:=S.blk 14 _ aG;have Qv:=z2 rfl;subst Qv;have Qw:=EC z4;subst Qw;have aP:=aY 14 _ j6 k' aG (by simp) rfl r1;refine ⟨rfl,_,rfl,rfl,le,?_⟩
     match bQ,yE with
     | _,.sl (b:=cl) (k:=k1) _ _ _ e'=>
      rw [r1] at e';cases e';exact ⟨j6,k',by rw [oJ],fresh _ aP,arr,rest,hr,z3,acg rfl⟩
   ·cases hk
  | 12,hi=>
   cases hi;have hc:=af rfl;subst hc;have dX:ai=s:=dX;subst dX;have h34:e' 34=oK ap bp yp np:=pre 0 34 rfl rfl;obtain ⟨q,k,h45,aP,aE⟩:=(show ∃q k,e' 45=.slice (some ⟨q,0,none⟩) 2 k/\h q=none/\hO h1 q k [x,(i,j)] true from pre 11 45 rfl rfl);simp only [b3,gF,bc,undef,seval,List.map_cons,List.map_nil,h34,h45,oK];rw [Bs (K:=⟨_⟩) call141];refine bI.mono (fun s2 h2 v ⟨r1,r2,r3⟩=> ?_) (ay2 h1 q k bx aP aE);exact ⟨rfl,_,rfl,r1,r2,r3⟩
  | 13,hi=>
   cases hi;have an:e' 46=.bool true:=pre 12 46 rfl rfl;simp only [b3,gF,bc,undef,seval,an];exact ⟨trivial,_,rfl,trivial,fun _ _ e=>e,rfl⟩
  | n+14,hi=>simp [wW] at hi
 ·intro e' ai h1 bx un tc z;refine fin e' ai h1 bx (fun t aj=>un t ?_) (by simpa [wW] using z) (tc 13 47 rfl);rw [List.all_eq_true];intro aO c9;have:∀eh∈wW,34<=eh.dst.getD 0/\eh.dst.isSome=true:=by decide
  have:=this aO c9;cases hd:aO.dst with
  | none=>rw [hd] at this;cases this.2
  | some u=>
   rw [hd] at this;have h34:34<=u:=this.1;have b7:u≠t:=Nat.ne_of_gt (Nat.lt_of_lt_of_le aj h34);simpa using b7
end
def fM(n:Nat):b6:=((n/4:Nat),(n%4:Nat))
theorem No:∀{n:Nat},n<8->fM n∈dv
 | 0,_|1,_|2,_|3,_|4,_|5,_|6,_|7,_=>by decide
 | n+8,h=>by omega
theorem aqh{i j:Nat}(h:j<4):fM (4*i+j)=((i:Int),(j:Int)):=by
 unfold fM;rw [show (4*i+j)/4=i by omega,show (4*i+j)%4=j by omega]
section
variable{main:Bool}{ah:Type}{Sy:Sys ah}{s:ah}{h:ab}{b:bn}
theorem alh{a:b6}(aA:a∈dv):rk (eH fl iF 30 62 [sF [a]] (gn [tB [a]]))=some (gO 0 [a]):=
 J9 (List.all_eq_true.1 asJ a aA)
theorem ali{p:Nat}{o:Bool}{a:b6}(aA:a∈dv)(aK:qh h p a o):
  bP Tryz.prog 62=true/\bI Tryz.prog main Sy 62 ⟨[.slice (some ⟨p,0,none⟩) 1 1]⟩ s h fun ai h' v=>ai=s/\h.aD h'/\v=.int .i64 (gO 0 [a]):=by
 have e:=alh aA;unfold rk at e;split at e
 ·rename_i n H' aa;cases e;obtain ⟨ck,q⟩:=ve (main:=main) (Sy:=Sy) (s:=s) (bs:=[(p,1)]) (h:=h) (args':=[.slice (some ⟨p,0,none⟩) 1 1]) aa rfl Is (fun i x b9 k' h1 h2=>by
    match i with
    | 0=>simp at h1 h2;obtain ⟨rfl,rfl⟩:=h2;subst h1;exact E5 aK
    | i+1=>simp at h1)
   (.cons (bw.sl (ρ:=ia [(p,1)]) (c:=12) (b:=p) (k:=1) 0 1 1 rfl) .nil)
  exact ⟨ck,q.mono fun ai h' v ⟨e1,e2,bA,e3,e4,e5⟩=>⟨e1,e2,by cases e4;rfl⟩⟩
 ·cases e
theorem aqi:(((1:Nat):Int)==((2:Nat):Int))=false:=by decide
theorem ais{ap bp yp np l p:Nat}{bR:Int}{o:Bool}{x:b6}(oB:Nat->ah->Prop)(aa:x∈dv)(C:Ctx h ap bp yp np l bR)(aK:qh h p x o)(v7:gO 0 [x]<=bR)(z0:oB 0 s)
  (step:∀n,n<8->∀s1 h1,h.aD h1->oB n s1->(bR<gO 0 [x,fM n]->oB (n+1) s1)/\(gO 0 [x,fM n]<=bR->qd main Sy l x (fM n) s1 h1 (oB (n+1)))):
  bI Tryz.prog main Sy 141 #[.slice (some ⟨p,0,none⟩) 1 1,br ap,br bp,br yp,br np] s h fun ai h' v=>oB 8 ai/\h.aD h'/\v=.bool true:=by
 refine cc (n:=50) (args:=[.slice (some ⟨p,0,none⟩) 1 1,br ap,br bp,br yp,br np]) Tryz.func141 Kd rfl (by simp) Lq ?_;simp only [bc,undef,seval,KL,KJ,Kc,Kb];intro t;refine Pm (p0:=p) (m0:=1) (k0:=1) (bR:=bR) (l:=l) (n:=gO 0 [x]) rfl (by simp [aZ,dE]) (by simp [aZ,dE]) C (fun h1 bx=>ali aa (bx _ _ aK)) (fun e1 h1 bx sK v8=> ?_) t;have hd:decide (gO 0 [x]>bR)=false:=by simp;omega
 rw [hd] at v8;have u0:e1 0=.slice (some ⟨p,0,none⟩) 1 1:=by rw [sK 0 (by decide) (by decide) (by decide) (by decide)];simp [aZ,dE]
 have fi:e1 2=br bp:=by rw [sK 2 (by decide) (by decide) (by decide) (by decide)];simp [aZ,dE]
 have pU:e1 4=br np:=by rw [sK 4 (by decide) (by decide) (by decide) (by decide)];simp [aZ,dE]
 obtain ⟨arr,o2,oA,kB,fx,db,hb,iL,jc⟩:=(C.le bx).b;have rS:∀(b:bn) (K:ah->ab->Value->Prop),@fa Tryz.prog main _ Sy b 23 (.pointer (some ⟨bp,1,none⟩)) s h1 ⟨K⟩=K s h1 (.slice kB 2 db):=fun b K=>jN (K:=⟨K⟩) YW (A:=⟨bp,1,none⟩) hb rfl jc;have la:∀(b:bn) (K:ah->ab->Value->Prop),@fa Tryz.prog main _ Sy b 22 (.pointer (some ⟨bp,0,none⟩)) s h1 ⟨K⟩=K s h1 (.slice oA 2 fx):=fun b K=>jN (K:=⟨K⟩) asV (A:=⟨bp,0,none⟩) hb rfl iL;simp only [bc,undef,seval,Ka,UC,TH,TG,ahQ,ahP,ahO,ahN,v8,u0,fi,br,HD,V8,Xj,rS,YX,aqi,anT,la,asW];refine eG (fun m e d ai h'=>d=[]/\h.aD h'/\∃i:Nat,i<=2/\m=2- i/\e 0=.slice (some ⟨p,0,none⟩) 1 1/\e 4=br np/\e 27=.int .i64 2/\e 28=.int .i64 i/\oB (4*i) ai) (fun m e d ai h' J=> ?_) (m:=2) ⟨rfl,bx,0,by omega,rfl,by simp [aZ,u0],by simp [aZ,pU],by simp [aZ],by simp [aZ],z0⟩;obtain ⟨rfl,bM,i,hi,rfl,v0,v4,Qx,v28,z⟩:=J;by_cases AI:i=2
 ·subst AI;have bY:decide (((2:Nat):Int)<2)=false:=by decide
  simp only [bc,undef,seval,UB,UA,TF,Qx,v28,bY,ahM];refine bT Tryz.results141 (by simp) ?_;exact ⟨z,bM,by simp [aZ]⟩
 ·have bY:decide ((i:Int)<2)=true:=by simp;omega
  simp only [bc,undef,seval,UB,UA,TF,ae4,ae3,ae2,ae1,ae0,aeZ,Qx,v28,bY];refine eG (fun m e d ai h'=>d=[]/\h.aD h'/\∃j:Nat,j<=4/\m=4- j/\e 0=.slice (some ⟨p,0,none⟩) 1 1/\e 4=br np/\e 27=.int .i64 2/\e 28=.int .i64 i/\e 7=.int .i64 i/\e 31=.int .i64 j/\oB (4*i+j) ai) (fun m e d ai h' J=> ?_) (m:=4) ⟨rfl,bM,0,by omega,rfl,by simp [aZ,v0],by simp [aZ,v4],by simp [aZ,Qx],by simp [aZ,v28],by simp [aZ],by simp [aZ],z⟩;obtain ⟨rfl,bK,j,ae,rfl,w0,w4,aag,aah,Bg,wa,j4⟩:=J;by_cases uw:j=4
  ·subst uw;have bY:decide (((4:Nat):Int)<4)=false:=by decide
   simp only [bc,undef,seval,TE,TD,TC,aeR,wa,aah,bY,tt];have hw:IntKind.i64.wrap ((i:Int)+1)=((i+1:Nat):Int):=by rcases (show i=0\/i=1 by omega) with rfl|rfl<;>rfl
   exact ⟨2- (i+1),by omega,trivial,bK,i+1,by omega,rfl,w0,w4,aag,by rw [hw],j4⟩
  ·have bY:decide ((j:Int)<4)=true:=by simp;omega
   simp only [bc,undef,seval,TE,TD,TC,aeY,aeX,aeW,aeV,aeU,wa,bY];intro t2;have ao:4*i+j<8:=by omega
   have aai:=aqh (i:=i) (j:=j) (by omega);refine aqg (x:=x) (i:=i) (j:=j) (Z:=oB (4*i+j+1)) (bR:=bR) (ap:=ap) (bp:=bp) (yp:=yp) (l:=l) (by simp [aZ,w0]) (by simp [aZ,w4]) (by simp [aZ,Bg]) (by simp [aZ]) (C.le bK) (bK _ _ aK) (fun h2 q k cd aP aE=> ?_) (fun e2 s2 h2 cd AS z2 Qy=> ?_) t2
   ·obtain ⟨g1,g2⟩:=step (4*i+j) ao ai h2 (le_trans bK cd) j4;rw [aai] at g1 g2;exact air aa (by rw [<- aai];exact No ao) (C.le (le_trans bK cd)) aE g1 g2
   ·have avU:e2 31=.int .i64 j:=by rw [AS 31 (by decide)];simp [aZ,wa]
    simp only [bc,undef,seval,aeT,aeS,Qy,avU,tt];have hw:IntKind.i64.wrap ((j:Int)+1)=((j+1:Nat):Int):=by rcases (show j=0\/j=1\/j=2\/j=3 by omega) with rfl|rfl|rfl|rfl<;>rfl
    exact ⟨4- (j+1),by omega,trivial,le_trans bK cd,j+1,by omega,rfl,by rw [AS 0 (by decide)];simp [aZ,w0],by rw [AS 4 (by decide)];simp [aZ,w4],by rw [AS 27 (by decide)];simp [aZ,aag],by rw [AS 28 (by decide)];simp [aZ,aah],by rw [AS 7 (by decide)];simp [aZ,Bg],by rw [hw],z2⟩
end
section
open Go.ConcM (OsLater muBlock MuAt muA msA)
namespace cK
variable{n i:Nat}{x:cK}
theorem aqj(h:x.cu n)(hi:i<n)(hm:x.md i=.vO)(c:Bool):x.S=1/\x.L=0/\x.K=0/\0<x.W/\(x.go i .own 1 x.K (if c then 0 else 1) (x.W- 1) x.M).cu n/\(x.go i .own 1 x.K (if c then 0 else 1) (x.W- 1) x.M).cf n<x.cf n:=by
 obtain ⟨a1,a2,a3,a4,a5,eK,eV,fJ⟩:=n8 hi x.md .own;obtain ⟨l,fg,k1,s1,n0,bm⟩:=h;have hle:=rv hi x.md;simp only [hm,a7.iE,a7.iW,a7.hG,a7.iY,a7.il,a7.hH,a7.jI,a7.wt] at a1 a2 a3 a4 a5 eK eV fJ hle;have cZ:x.S=1:=by
  rcases (show x.S=0\/x.S=1 by omega) with e|e
  ·have:=n0 e;omega
  ·exact e
 obtain ⟨cl,bV,dz,hD⟩:=bm cZ;refine ⟨cZ,by omega,by omega,by omega,?_,?_⟩<;>cases c<;>(try refine ⟨?_,?_,?_,?_,fun e=>⟨?_,?_,?_,?_⟩,fun e=>⟨?_,?_,?_,?_⟩⟩)<;>(try simp only [go,if_true,if_false,Bool.false_eq_true,reduceIte] at e)<;>(try simp only [go,cf,if_true,if_false,Bool.false_eq_true,reduceIte])<;>(first|omega|exact fun _=>.inl trivial|exact fun _=>.inr (.inl trivial))
theorem qe{m:a7}{L K S W M:Nat}(j:Nat)(ae:j≠i):(x.go i m L K S W M).md j=x.md j/\(x.go i m L K S W M).di j=x.di j:=⟨Go.ConcN.upd_ne _ _ ae,rfl⟩
theorem oL{m:a7}{L K S W M:Nat}:(x.go i m L K S W M).md i=m:=Go.ConcN.upd_same _ _ _
theorem L6{m:a7}{L K S W M:Nat}(j:Nat)(ae:j≠i):(x.nF i m L K S W M).md j=x.md j/\(x.nF i m L K S W M).di j=x.di j:=⟨Go.ConcN.upd_ne _ _ ae,Go.ConcN.upd_ne _ _ ae⟩
theorem Xk{m:a7}{L K S W M:Nat}:(x.nF i m L K S W M).md i=m:=Go.ConcN.upd_same _ _ _
theorem V9{m:a7}{L K S W M:Nat}:(x.nF i m L K S W M).di i=x.di i- 1:=Go.ConcN.upd_same _ _ _
end cK
theorem alj{x:cK}{lo i:Nat}{m:a7}{L K S W M:Nat}(iy:∀j,x.md j≠.out->lo<=j)(hi:lo<=i):∀j,(x.nF i m L K S W M).md j≠.out->lo<=j:=fun j ae=>by
 by_cases e:j=i
 ·subst e;exact hi
 ·exact iy j (by rw [<- (cK.L6 j e).1];exact ae)
theorem anU{x:cK}{lo i:Nat}{m:a7}{L K S W M:Nat}(iy:∀j,x.md j≠.out->lo<=j)(hi:lo<=i):∀j,(x.go i m L K S W M).md j≠.out->lo<=j:=fun j ae=>by
 by_cases e:j=i
 ·subst e;exact hi
 ·exact iy j (by rw [<- (cK.qe j e).1];exact ae)
abbrev ep(tM tW:TypeId)(os0:eB)(Post:Value->World->Prop)(i:Nat):Sys ay:=(fC Tryz.prog tM tW os0 Post).hM i
abbrev fE(f:FuncId):bn:=⟨f,.normal,none⟩
section
variable{tM tW:TypeId}{os0:eB}{Post:Value->World->Prop}{i:Nat}{bm s:ay}{h:ab}{md:a7}{bH bd bG:Nat}{t:Bool}{g:List cT}
theorem BL{k m:Nat}:deafBehind k #[⟨.cell ⟨m,0,none⟩,false,true⟩,⟨.cell ⟨m,0,none⟩,true,true⟩]=k:=by simp [deafBehind]
theorem anV{k m:Nat}:deafBehind k #[⟨.cell ⟨m,0,none⟩,false,true⟩]=k:=by simp [deafBehind]
theorem q4{k:Nat}:deafBehind k #[]=k:=by simp [deafBehind]
theorem FH{K:ay->ab->Value->Prop}{b:bn}(c:dO i bm s md bH bd t g)(hm:bm.mu=bG)(hh:h bG=none)(aE:(Tryz.prog.funcs[b.fn]?).any (·.norace)=true)
  (k:∀γ,gW i s γ->dO i bm γ md bH bd t g->(γ.cw=some i->γ.x.md i=.own)->∃x',xb i γ x'/\x'.M=γ.x.M/\x'.mu=γ.x.mu/\K (γ.bB i x' #[]) h (.int .i32 γ.x.mu)):
  fa Tryz.prog false (ep tM tW os0 Post i) b 21 (.pointer (some ⟨bG,0,none⟩)) s h (K:=⟨K⟩):=by
 obtain rfl:s.mu=bG:=c.c7.mu.trans hm;exact aqd c.w aac aE hh fun γ a8 eD=>k γ a8 (c.rel a8) eD
theorem Np{K:ay->ab->Value->Prop}{b:bn}(c:dO i bm s md bH bd t g)(hm:bm.mu=bG)(hh:h bG=none)(aE:(Tryz.prog.funcs[b.fn]?).any (·.norace)=true)
  (k:∀γ,gW i s γ->dO i bm (γ.bB i γ.x #[]) md bH bd t g->K (γ.bB i γ.x #[]) h (.int .i32 γ.x.mu)):
  fa Tryz.prog false (ep tM tW os0 Post i) b 21 (.pointer (some ⟨bG,0,none⟩)) s h (K:=⟨K⟩):=
 FH c hm hh aE fun γ a8 hC eD=>⟨γ.x,.refl a8.ok eD,rfl,rfl,k γ a8 (c.bB a8 hC.md hC.di q4)⟩
theorem FI{K:ay->ab->Value->Prop}{old new:Int}(c:dO i bm s md bH bd t g)(hm:bm.mu=bG)(b7:md≠.hT)(aj:t=false)
  (hit:∀γ,gW i s γ->dO i bm γ md bH bd t g->(γ.x.mu:Int)=old->∃x' Qz j1,x'.cu γ.cap/\((x'.mu:Nat):Int)=new/\x'.M=γ.x.M/\(∀j,j≠i->x'.md j=γ.x.md j/\x'.di j=γ.x.di j)/\x'.cf γ.cap<γ.x.cf γ.cap/\x'.md i=Qz/\x'.di i=j1/\
   ∀γ',γ'.x=x'->γ'.cap=γ.cap->dO i bm γ' Qz bH j1 t g->K γ' h (.bool true))
  (Co:∀γ,gW i s γ->(γ.x.mu:Int)≠old->∀γ',γ'.x=γ.x->γ'.cap=γ.cap->dO i bm γ' md bH bd t g->(∀p v,Old s p v->Old γ' p v)->K γ' h (.bool false)):
  eX Tryz.prog false (ep tM tW os0 Post i) 171 #[.pointer (some ⟨bG,0,none⟩),.int .i32 old,.int .i32 new] s h (K:=⟨K⟩):=by
 obtain rfl:s.mu=bG:=c.c7.mu.trans hm;refine ap9 c.w.pos c.w.on c.w.wk c.w.n0 c.w.aR BZ.f BZ.name BZ.body BZ.next BZ.find (fun γ a8 aI=> ?_) fun γ a8 aI=> ?_
 ·obtain ⟨x',Qz,j1,c1,c2,c3,c4,c5,c6,dC,eN⟩:=hit γ a8 (c.rel a8) aI;refine ⟨x',c1,c2,c3,c4,c5,fun e=> ?_,fun e=> ?_,eN _ rfl rfl (c.bB a8 c6 dC BL)⟩
  ·have:=(c.rel a8).cw.1 e;rw [aj] at this;cases this
  ·rw [(c.rel a8).md] at e;exact absurd e b7
 ·exact Co γ a8 aI _ rfl rfl (c.bB a8 (c.rel a8).md (c.rel a8).di anV) fun p v o=>o.bB a8 (Nat.le_refl _) (fun e=>absurd rfl e)
end
end
section
open Go.ConcM (OsLater muBlock MuAt muA msA)
section
variable{tM tW:TypeId}{os0:eB}{Post:Value->World->Prop}{i:Nat}{bm s:ay}{h:ab}{md:a7}{bH bd bG:Nat}{t:Bool}{g:List cT}
structure De(i:Nat)(bm:ay)(bG bd:Nat)(g:List cT)(e:Env)(s:ay)(aw st:Bool)(it wt:Int)(W c p:Nat):Prop where
 e0:e 0=.pointer (some ⟨bG,0,none⟩)
 e2:e 2=.int .i64 wt
 e3:e 3=.bool st
 e4:e 4=.bool aw
 e5:e 5=.int .i64 it
 e6:e 6=.int .i32 (8*W+c:Nat)
 cur:dO i bm s (.hP aw) 1 bd false g
 eN:c<8
 qT:W<100000000
 Iy:aw=true->c &&& 2≠0/\c &&& 4=0
 oq:st=true->aw=true
 uy:0<=it
 sM:it<=4
 old:Old s p (8*W+c)
def sN(i:Nat)(bm:ay)(bG bd:Nat)(g:List cT)(h0:ab)(n:Nat)(e:Env)(d:List Deferred)(s:ay)(h:ab):Prop:=
 d=[]/\h=h0/\∃aw st it wt W c p,De i bm bG bd g e s aw st it wt W c p/\n=6*p+(4- it).toNat
theorem Iz{γ:ay}(ok:γ.x.cu γ.cap)(hb:γ.x.W<=24):∃W c,γ.x.mu=8*W+c/\c<8/\W<100000000/\W=γ.x.W/\c=γ.x.L+2*γ.x.K+4*γ.x.S:=by
 obtain ⟨an,az,aB⟩:=ok.dec hb;exact ⟨_,_,an,az,aB,rfl,rfl⟩
theorem alk{γ:ay}(ok:γ.x.cu γ.cap){i:Nat}(hi:i<γ.cap)(hm:γ.x.md i=.hP true){c:Nat}(hc:c=γ.x.L+2*γ.x.K+4*γ.x.S):c &&& 2≠0/\c &&& 4=0:=by
 obtain ⟨k,z⟩:=cK.awake ok hi hm;have:=ok.fg;rcases (show γ.x.L=0\/γ.x.L=1 by omega) with e|e<;>rw [e,k,z] at hc<;>subst hc<;>decide
theorem G4{aw st:Bool}{it wt:Int}{γ:ay}{e:Env}(cW:γ.x.cu γ.cap)(asY:∀j,γ.x.md j≠.out->γ.n0<=j)(cur:dO i bm γ (.hP aw) 1 bd false g)(e0:e 0=.pointer (some ⟨bG,0,none⟩))(e2:e 2=.int .i64 wt)(e3:e 3=.bool st)(e4:e 4=.bool aw)(e5:e 5=.int .i64 it)
  (e6:e 6=.int .i32 γ.x.mu) (oq:st=true->aw=true) (uy:0<=it) (sM:it<=4):sN i bm bG bd g h (6*γ.x.cf γ.cap+(4- it).toNat) e [] γ h:=by
 obtain ⟨W,c,an,az,aB,aX,cp⟩:=Iz cW (cW.uU asY cur.dj);refine ⟨rfl,rfl,aw,st,it,wt,W,c,γ.x.cf γ.cap,⟨e0,e2,e3,e4,e5,by rw [e6,an],cur,az,aB,fun aA=> ?_,oq,uy,sM,?_⟩,rfl⟩
 ·subst aA;exact alk cW cur.cap cur.md cp
 ·rw [<- an];exact Old.new
theorem asZ:∀c<8,c &&& 5≠0->c=1\/c=3\/c=4\/c=5\/c=6\/c=7:=by decide
theorem as0(W c:Nat)(st aw:Bool)(h:c=0\/c=2):8*(dB W c)+eT c st aw=8*W+1+(if aw then 0 else c):=by
 rcases h with rfl|rfl<;>cases st<;>cases aw<;>simp [dB,eT,n4,n3,db]
theorem as1(L K S W:Nat)(st aw:Bool)(af:L<=1)(hk:K<=1)(hs:S<=1)(h:(L+2*K+4*S) &&& 5≠0)(cj:st=true->aw=true)(aA:aw=true->S=0):
  8*(dB W (L+2*K+4*S))+eT (L+2*K+4*S) st aw=L+2*(if aw then 0 else K)+4*(if st then 1 else S)+8*(W+1):=by
 rcases (show L=0\/L=1 by omega) with rfl|rfl<;>rcases (show K=0\/K=1 by omega) with rfl|rfl<;>rcases (show S=0\/S=1 by omega) with rfl|rfl<;>cases st<;>cases aw<;>simp_all [dB,eT,n4,n3,db]<;>omega
theorem X8(L K S:Nat)(af:L<=1)(hk:K<=1)(hs:S<=1):((L+2*K+4*S) &&& 5=0↔L=0/\S=0):=by
 rcases (show L=0\/L=1 by omega) with rfl|rfl<;>rcases (show K=0\/K=1 by omega) with rfl|rfl<;>rcases (show S=0\/S=1 by omega) with rfl|rfl<;>simp
end
end
section
open Go.ConcM (OsLater muBlock MuAt muA msA)
section
variable{tM tW:TypeId}{os0:eB}{Post:Value->World->Prop}{i:Nat}{bm s:ay}{h:ab}{bd bG:Nat}{g:List cT}
variable{K:eZ->Env->List Deferred->ay->ab->Prop}{e:Env}
theorem Nq:IntKind.i32.wrap (-11)= -11:=by decide
def AT(i:Nat)(bm:ay)(bG bd:Nat)(g:List cT)(h0:ab)(e:Env)(d:List Deferred)(s:ay)(h:ab):Prop:=
 d=[]/\h=h0/\e 0=.pointer (some ⟨bG,0,none⟩)/\dO i bm s .own 1 bd false g
theorem L7{del:Int}(hm:bm.mu=bG)(cur:dO i bm s .vO 1 bd false g)(e0:e 0=.pointer (some ⟨bG,0,none⟩))(de:e 9=.int .i32 del)(hd:del= -7\/del= -11)
  (kx:∀e d s h',AT i bm bG bd g h e d s h'->K (.ext 0) e d s h'):
  cF Tryz.prog false (ep tM tW os0 Post i) 139 (fE 172) Lz K e [] s h:=by
 simp only [bc,undef,seval,afb,e0,de,pq];obtain rfl:s.mu=bG:=cur.c7.mu.trans hm;refine X6 cur.w Xe fun γ a8 eD=> ?_;have hc:=cur.rel a8;obtain ⟨c,kt⟩:∃c:Bool,del=if c then -11 else -7:=by rcases hd with rfl|rfl;exact ⟨false,rfl⟩;exact ⟨true,rfl⟩
 obtain ⟨an,az,aB,aX,cp,fw⟩:=cK.aqj a8.ok hc.cap hc.md c;have hb:=a8.ok.lU;have pC:=a8.ok.uU a8.iy hc.dj;have gw:γ.x.mu=8*γ.x.W+4:=by unfold cK.mu;omega
 refine ⟨_,⟨cp,cK.qe,Nat.le_of_lt fw,fun _=>fw,fun _=>cK.oL,fun e=>by rw [hc.md] at e;cases e⟩,rfl,?_,?_⟩
 ·rw [gw];have e1:(γ.x.go i .own 1 γ.x.K (if c then 0 else 1) (γ.x.W- 1) γ.x.M).mu=1+4*(if c then 0 else 1)+8*(γ.x.W- 1):=by
   show 1+2*γ.x.K+4*(if c then 0 else 1)+8*(γ.x.W- 1)=_;rw [aB]
  rw [e1,kt];cases c
  ·simp only [Bool.false_eq_true,if_false];rw [show ((8*γ.x.W+4:Nat):Int)+ -7=((1+4*1+8*(γ.x.W- 1):Nat):Int) by omega];exact (wrap32 (by omega)).symm
  ·simp only [if_true];rw [show ((8*γ.x.W+4:Nat):Int)+ -11=((1+4*0+8*(γ.x.W- 1):Nat):Int) by omega];exact (wrap32 (by omega)).symm
 ·exact kx _ _ _ _ ⟨rfl,rfl,by simp [aZ,cM,e0],cur.bB a8 cK.oL hc.di BL⟩
theorem Wa{st:Bool}{wt it:Int}{aw:Bool}{p:Nat}(hm:bm.mu=bG)(hh:h bG=none)(cur:dO i bm s .qz 1 bd false g)(aK:s.x.cf s.cap<p)(e0:e 0=.pointer (some ⟨bG,0,none⟩))(e2:e 2=.int .i64 wt)(e3:e 3=.bool st)
  (kx:∀e d s h',AT i bm bG bd g h e d s h'->K (.ext 0) e d s h') (kC:∀e d s h' n,n<6*p->sN i bm bG bd g h n e d s h'->K .cB e d s h'):
  cF Tryz.prog false (ep tM tW os0 Post i) 139 (fE 172) FB K e [] s h:=by
 simp only [bc,undef,seval,TM,e0,pq];refine FH (b:=fE 172) cur hm hh G2 fun γ a8 hc eD=> ?_;obtain ⟨W,c,w1,w2,w3,w4,rT⟩:=Iz a8.ok (a8.ok.uU a8.iy hc.dj);have Cs:γ.x.cf γ.cap<p:=by have:=a8.rel.cf;rw [a8.rel.cap];omega
 have hZ:=a8.ok.s1;rcases (show γ.x.S=0\/γ.x.S=1 by omega) with cZ|cZ
 ·obtain ⟨r1,r2,r3⟩:=cK.apE a8.ok hc.cap hc.md cZ;refine ⟨_,⟨r1,cK.qe,Nat.le_of_lt r2,fun e=>absurd rfl e,fun e=>(by have:=hc.cw.1 e;cases this),fun e=>by rw [hc.md] at e;cases e⟩,rfl,rfl,?_⟩;have gw:(γ.x.go i (.hP true) γ.x.L γ.x.K γ.x.S γ.x.W γ.x.M).mu=γ.x.mu:=rfl;have af:=a8.ok.fg;have iA:c=2\/c=3:=by omega
  have eC:=cur.bB (evs:=#[]) a8 (x':=γ.x.go i (.hP true) γ.x.L γ.x.K γ.x.S γ.x.W γ.x.M) cK.oL hc.di q4;have bY:6*(γ.x.go i (.hP true) γ.x.L γ.x.K γ.x.S γ.x.W γ.x.M).cf γ.cap+4<6*p:=by omega
  have fc:W<134217728:=by omega
  have e6:∀b2,c=b2->(8*W+b2:Nat)=γ.x.mu:=fun b2 h=>by rw [w1,h]
  rw [w1];rcases iA with iA|iA<;>rw [iA]<;>simp only [bc,undef,seval,TM,TL,afa,ae9,TK,TJ,j5,bne,seval,fc]<;>exact kC _ _ _ _ _ bY (G4 (aw:=true) (st:=st) (wt:=wt) (it:=0) (γ:=γ.bB i (γ.x.go i (.hP true) γ.x.L γ.x.K γ.x.S γ.x.W γ.x.M) #[]) r1 (anU a8.iy hc.w.n0) eC (by simp [aZ,cM,e0]) (by simp [aZ,cM,e2]) (by simp [aZ,cM,e3]) (by simp [aZ,cM]) (by simp [aZ,cM]) (by simp only [aZ,cM,Nat.reduceEqDiff,↓reduceIte,e6 _ iA];rfl) (fun _=>rfl) (by omega) (by omega))
 ·obtain ⟨r1,r2,r3,gI,ih⟩:=cK.apF a8.ok hc.cap hc.md cZ;refine ⟨_,⟨r1,cK.qe,r2,fun e=>absurd rfl e,fun e=>(by have:=hc.cw.1 e;cases this),fun e=>by rw [hc.md] at e;cases e⟩,rfl,rfl,?_⟩;have iA:c=4:=by omega
  have fc:W<134217728:=by omega
  have avV:¬((W:Nat):Int)=0:=by omega
  have eC:=cur.bB (evs:=#[]) a8 (x':=γ.x.go i .vO γ.x.L γ.x.K γ.x.S γ.x.W γ.x.M) cK.oL hc.di q4;rw [w1,iA];have iL:(((W:Nat):Int)==0)=false:=by simpa using avV
  simp only [bc,undef,seval,TL,TK,TJ,afg,aff,afe,afd,afc,j5,bne,seval,fc,iL];cases st with
  | false=>
   simp only [bc,undef,seval,TI,Kh,Kg,j5,bne,seval,e3,wZ,Nq];exact L7 (K:=K) (del:= -11) hm eC (by simp [aZ,cM,e0]) (by simp [aZ,cM]) (.inr rfl) kx
  | true=>
   simp only [bc,undef,seval,TI,j5,bne,seval,e3,fc];cases aaj:(((W:Nat):Int)==1) with
   | false=>
    simp only [bc,undef,seval,Kh,Kg,j5,bne,seval,wZ,Nq];exact L7 (K:=K) (del:= -7) hm eC (by simp [aZ,cM,e0]) (by simp [aZ,cM]) (.inl rfl) kx
   | true=>
    simp only [bc,undef,seval,Kh,Kg,j5,bne,seval,wZ,Nq];exact L7 (K:=K) (del:= -11) hm eC (by simp [aZ,cM,e0]) (by simp [aZ,cM]) (.inr rfl) kx
end
end
section
open Go.ConcM (OsLater muBlock MuAt muA msA)
section
variable{tM tW:TypeId}{os0:eB}{Post:Value->World->Prop}{i:Nat}{bm s:ay}{h:ab}{bd bG:Nat}{g:List cT}
variable{K:eZ->Env->List Deferred->ay->ab->Prop}{e:Env}
theorem UR{k:Nat}{a:Addr}:deafBehind k (semEvents a)=k:=by simp [deafBehind,semEvents]
theorem Wb{st:Bool}{wt it:Int}{p:Nat}(hm:bm.mu=bG)(hh:h bG=none)(cur:dO i bm s .hT 1 bd false g)(aK:s.x.cf s.cap<p)(e0:e 0=.pointer (some ⟨bG,0,none⟩))(e2:e 2=.int .i64 wt)(e3:e 3=.bool st)
  (kx:∀e d s h',AT i bm bG bd g h e d s h'->K (.ext 0) e d s h') (kC:∀e d s h' n,n<6*p->sN i bm bG bd g h n e d s h'->K .cB e d s h'):
  cF Tryz.prog false (ep tM tW os0 Post i) 139 (fE 172) FA K e [] s h:=by
 obtain rfl:s.mu=bG:=cur.c7.mu.trans hm;simp only [bc,undef,seval,afh,e0,L4];refine aqa cur.w anN rfl cur.cap cur.md fun γ a8 dJ=> ?_;have hc:=cur.rel a8;obtain ⟨an,az⟩:=cK.ZK a8.ok hc.cap hc.md dJ;have eC:=cur.bB (evs:=semEvents (msA s.mu)) a8 (x':=γ.x.go i .qz γ.x.L γ.x.K γ.x.S γ.x.W (γ.x.M- 1)) cK.oL hc.di UR;have Cs:(γ.x.go i .qz γ.x.L γ.x.K γ.x.S γ.x.W (γ.x.M- 1)).cf γ.cap<p:=by have:=a8.rel.cf;rw [a8.rel.cap] at az ⊢;omega
 have gw:bm.mu=s.mu:=hm;cases st with
 | true=>
  simp only [bc,undef,seval,Ki,e0,e2,e3];exact Wa (st:=true) (wt:=wt) (it:=it) (aw:=true) (p:=p) gw hh eC Cs (by simp [aZ,cM,e0]) (by simp [aZ,cM,e2]) (by simp [aZ,cM]) kx kC
 | false=>
  simp only [bc,undef,seval,Ki,e0,e2,e3];refine W9 eC.w Xg X7 fun dk dB fR=> ?_;have cN:=eC.bB (evs:=#[]) fR (x':=dk.x) (eC.rel fR).md (eC.rel fR).di q4;have xn:dk.x.cf dk.cap<p:=by
   have h1:=fR.rel.cf;have h2:=fR.rel.cap;rw [h2];exact Nat.lt_of_le_of_lt h1 Cs
  simp only [bc,undef,seval,Ki,e0,e2,e3,wZ];exact Wa (st:=decide (IntKind.i64.wrap (dB- wt)>1000000)) (wt:=wt) (it:=it) (aw:=true) (p:=p) gw hh cN xn (by simp [aZ,cM,e0]) (by simp [aZ,cM,e2]) (by simp [aZ,cM]) kx kC
end
end
section
open Go.ConcM (OsLater muBlock MuAt muA msA)
section
variable{tM tW:TypeId}{os0:eB}{Post:Value->World->Prop}{i:Nat}{bm s:ay}{h:ab}{bd bG:Nat}{g:List cT}
variable{K:eZ->Env->List Deferred->ay->ab->Prop}{e:Env}
theorem alm{st:Bool}{wt it:Int}{p:Nat}(hm:bm.mu=bG)(hh:h bG=none)(cur:dO i bm s .hT 1 bd false g)(aK:s.x.cf s.cap<p)(e0:e 0=.pointer (some ⟨bG,0,none⟩))(e2:e 2=.int .i64 wt)(e3:e 3=.bool st)
  (kx:∀e d s h',AT i bm bG bd g h e d s h'->K (.ext 0) e d s h') (kC:∀e d s h' n,n<6*p->sN i bm bG bd g h n e d s h'->K .cB e d s h'):
  cF Tryz.prog false (ep tM tW os0 Post i) 139 (fE 172) Fy K e [] s h:=by
 simp only [bc,undef,seval,afl,afk,afj,afi,e2];cases hb:(wt==0) with
 | true=>
  simp only [bc,undef,seval,TN,e2,hb];refine W9 cur.w Xg X7 fun dk dB fR=> ?_;have cN:=cur.bB (evs:=#[]) fR (x':=dk.x) (cur.rel fR).md (cur.rel fR).di q4;have xn:dk.x.cf dk.cap<p:=by
   have h1:=fR.rel.cf;have h2:=fR.rel.cap;rw [h2];exact Nat.lt_of_le_of_lt h1 aK
  simp only [bc,undef,seval];exact Wb (st:=st) (wt:=dB) (it:=it) (p:=p) hm hh cN xn (by simp [aZ,cM,e0]) (by simp [aZ,cM]) (by simp [aZ,cM,e3]) kx kC
 | false=>
  simp only [bc,undef,seval,TN,e2,hb];exact Wb (st:=st) (wt:=wt) (it:=it) (p:=p) hm hh cur aK (by simp [aZ,cM,e0]) (by simp [aZ,cM,e2]) (by simp [aZ,cM,e3]) kx kC
theorem anW{aw st:Bool}{it wt:Int}{W c p:Nat}(hm:bm.mu=bG)(hh:h bG=none)(I:De i bm bG bd g e s aw st it wt W c p)(e7:e 7=.int .i32 (8*(dB W c)+eT c st aw:Nat))
  (kx:∀e d s h',AT i bm bG bd g h e d s h'->K (.ext 0) e d s h') (kC:∀e d s h' n,n<6*p+(4- it).toNat->sN i bm bG bd g h n e d s h'->K .cB e d s h'):
  cF Tryz.prog false (ep tM tW os0 Post i) 139 (fE 172) zr K e [] s h:=by
 have e0:=I.e0;have e2:=I.e2;have e3:=I.e3;have e4:=I.e4;have e5:=I.e5;have e6:=I.e6;have qT:=I.qT;have eN:=I.eN;have fc:W<134217728:=by omega
 simp only [bc,undef,seval,afn,e0,e6,e7,pq];refine FI I.cur hm (by simp) rfl (fun γ a8 hc aI=> ?_) (fun γ a8 aI γ' aa gd hc aQ=> ?_)
 ·
  have m5:γ.x.mu=8*W+c:=by omega
  obtain ⟨an,az,aB⟩:=a8.ok.dec (a8.ok.uU a8.iy hc.dj);have avW:W=γ.x.W/\c=γ.x.L+2*γ.x.K+4*γ.x.S:=by omega
  obtain ⟨QA,iA⟩:=avW;have aK:=(I.old.rel a8).1;by_cases aH:c &&& 5=0
  ·obtain ⟨o4,cZ⟩:=(X8 γ.x.L γ.x.K γ.x.S a8.ok.fg a8.ok.k1 a8.ok.s1).1 (by rw [<- iA];exact aH);have IA:=a8.ok.k1;have YY:c=0\/c=2:=by omega
   obtain ⟨r1,r2⟩:=cK.acq a8.ok hc.cap hc.md o4 cZ;refine ⟨_,.own,bd,r1,?_,rfl,cK.qe,r2,cK.oL,hc.di,fun γ' aa gd eC=> ?_⟩
   ·rw [as0 W c st aw YY];show ((1+2*(if aw then 0 else γ.x.K)+4*0+8*γ.x.W:Nat):Int)=_;cases aw
    ·simp only [Bool.false_eq_true,if_false];congr 1;omega
    ·simp only [if_true];congr 1;omega
   ·rcases YY with rfl|rfl<;>simp only [bc,undef,seval,Kj,TQ,TP,TO,j5,bne,seval,e0,e6,fc]<;>exact kx _ _ _ _ ⟨rfl,rfl,by simp [aZ,cM,e0],eC⟩
  ·have o4:st=true->γ.x.L=1:=fun h=>by
    have h1:=I.Iy (I.oq h);have hs:=a8.ok.s1;have af:=a8.ok.fg;have hk:=a8.ok.k1;rcases (show γ.x.L=0\/γ.x.L=1 by omega) with e|e
    ·exfalso;apply aH;rcases (show γ.x.K=0\/γ.x.K=1 by omega) with e1|e1<;>rcases (show γ.x.S=0\/γ.x.S=1 by omega) with e2|e2<;>rw [e,e1,e2] at iA<;>subst iA<;>first|decide|exact absurd h1.2 (by decide)
    ·exact e
   have ZJ:γ.x.L=1\/γ.x.S=1:=by
    have hs:=a8.ok.s1;have af:=a8.ok.fg;have:=(X8 γ.x.L γ.x.K γ.x.S af a8.ok.k1 hs);rcases (show γ.x.L=0\/γ.x.L=1 by omega) with e|e
    ·rcases (show γ.x.S=0\/γ.x.S=1 by omega) with e1|e1
     ·exact absurd (this.2 ⟨e,e1⟩) (by rw [<- iA];exact aH)
     ·exact .inr e1
    ·exact .inl e
   obtain ⟨r1,r2⟩:=cK.hT a8.ok hc.cap (st:=st) hc.md ZJ (fun h=>⟨I.oq h,o4 h⟩);have avX:aw=true->γ.x.S=0:=fun h=>by subst h;exact (cK.awake a8.ok hc.cap hc.md).2
   refine ⟨_,.hT,bd,r1,?_,rfl,cK.qe,r2,cK.oL,hc.di,fun γ' aa gd eC=> ?_⟩
   ·rw [QA,iA,as1 _ _ _ _ _ _ a8.ok.fg a8.ok.k1 a8.ok.s1 (by rw [<- iA];exact aH) I.oq avX];rfl
   ·have Cs:γ'.x.cf γ'.cap<p:=by rw [aa,gd];omega
    rcases asZ c eN aH with rfl|rfl|rfl|rfl|rfl|rfl<;>simp only [bc,undef,seval,Kj,TQ,TP,TO,j5,bne,seval,e0,e6,fc]<;>exact alm (st:=st) (wt:=wt) (it:=it) (p:=p) hm hh eC Cs (by simp [aZ,cM,e0]) (by simp [aZ,cM,e2]) (by simp [aZ,cM,e3]) kx (fun e d s h' n ao=>kC e d s h' n (by omega))
 ·
  have c9:=aQ p (8*W+c) I.old;have b7:γ'.x.mu≠8*W+c:=by rw [aa];omega
  have bY:=c9.2 b7;obtain rfl:γ'.mu=bG:=hc.c7.mu.trans hm;simp only [bc,undef,seval,Kj,afm,e0,pq];refine Np (b:=fE 172) hc hm hh G2 fun dk fR cN=> ?_;have xn:dk.x.cf dk.cap<p:=by
   have h1:=fR.rel.cf;have h2:=fR.rel.cap;rw [h2];exact Nat.lt_of_le_of_lt h1 bY
  have hit:=I.uy;have Pn:=I.sM;exact kC _ _ _ _ (6*dk.x.cf dk.cap+(4- it).toNat) (by omega) (G4 (aw:=aw) (st:=st) (wt:=wt) (it:=it) (γ:=dk.bB i dk.x #[]) fR.ok fR.iy cN (by simp [aZ,cM,e0]) (by simp [aZ,cM,e2]) (by simp [aZ,cM,e3]) (by simp [aZ,cM,e4]) (by simp [aZ,cM,e5]) (by simp [aZ,cM];rfl) I.oq hit Pn)
end
end
section
open Go.ConcM (OsLater muBlock MuAt muA msA)
section
variable{tM tW:TypeId}{os0:eB}{Post:Value->World->Prop}{i:Nat}{bm s:ay}{h:ab}{bd bG:Nat}{g:List cT}
variable{K:eZ->Env->List Deferred->ay->ab->Prop}{e:Env}
theorem Wc{γ:ay}{p:Nat}(a8:gW i s γ)(aK:s.x.cf s.cap<=p):γ.x.cf γ.cap<=p:=by
 have h1:=a8.rel.cf;have h2:=a8.rel.cap;rw [h2];exact Nat.le_trans h1 aK
theorem wrap64{n:Int}(h0:0<=n)(h:n<100):IntKind.i64.wrap n=n:=by
 simp only [IntKind.wrap,IntKind.bits,IntKind.signed];simp;omega
theorem L8{aw st:Bool}{it wt:Int}{p:Nat}(hm:bm.mu=bG)(hh:h bG=none)(cur:dO i bm s (.hP aw) 1 bd false g)(aK:s.x.cf s.cap<=p)(e0:e 0=.pointer (some ⟨bG,0,none⟩))(e2:e 2=.int .i64 wt)(e3:e 3=.bool st)(e4:e 4=.bool aw)(e5:e 5=.int .i64 it)
  (oq:st=true->aw=true) (uy:0<=it) (sM:it<4)
  (kC:∀e d s h' n,n<6*p+(4- it).toNat->sN i bm bG bd g h n e d s h'->K (.ext 1) e d s h'):
  cF Tryz.prog false (ep tM tW os0 Post i) 139 (fE 172) BK K e [] s h:=by
 simp only [bc,undef,seval,afH];refine ahR cur.w anM fun γ a8=> ?_;have hc:=cur.bB (evs:=#[]) a8 (x':=γ.x) (cur.rel a8).md (cur.rel a8).di q4;have x1:(γ.bB i γ.x #[]).x.cf (γ.bB i γ.x #[]).cap<=p:=(Wc a8 aK:γ.x.cf γ.cap<=p);obtain rfl:s.mu=bG:=cur.c7.mu.trans hm;have gB:bm.mu=s.mu:=hm;simp only [bc,undef,seval,afG,afF,e0,e5,pq,tt];refine Np (b:=fE 172) hc gB hh G2 fun dk fR cN=> ?_;have aA0:=Wc fR x1;simp only [bc,undef,seval];refine kC _ _ _ _ (6*dk.x.cf dk.cap+(4- (it+1)).toNat) (by omega) (G4 (aw:=aw) (st:=st) (wt:=wt) (it:=it+1) (γ:=dk.bB i dk.x #[]) fR.ok fR.iy cN (by simp [aZ,e0]) (by simp [aZ,e2]) (by simp [aZ,e3]) (by simp [aZ,e4]) (by simp [aZ];exact wrap64 (by omega) (by omega)) (by simp [aZ];rfl) oq (by omega) (by omega))
theorem aln{aw st:Bool}{it wt:Int}{W c p:Nat}(hm:bm.mu=bG)(hh:h bG=none)(I:De i bm bG bd g e s aw st it wt W c p)(rl:c=1\/c=3)(sM:it<4)
  (kC:∀e d s h' n,n<6*p+(4- it).toNat->sN i bm bG bd g h n e d s h'->K (.ext 1) e d s h'):
  cF Tryz.prog false (ep tM tW os0 Post i) 139 (fE 172) BJ K e [] s h:=by
 have e0:=I.e0;have e2:=I.e2;have e3:=I.e3;have e4:=I.e4;have e5:=I.e5;have e6:=I.e6;have qT:=I.qT;have fc:W<134217728:=by omega
 have fin:∀e',fu 7 e e'->cF Tryz.prog false (ep tM tW os0 Post i) 139 (fE 172) BK K e' [] s h:=fun e' k=>
  L8 hm hh I.cur I.old.1 (by rw [k 0 (by omega),e0]) (by rw [k 2 (by omega),e2]) (by rw [k 3 (by omega),e3]) (by rw [k 4 (by omega),e4]) (by rw [k 5 (by omega),e5]) I.oq I.uy sM kC
 cases aw with
 | true=>
  simp only [bc,undef,seval,EJ,y5,y2,j5,bne,seval,e4];exact fin _ (by repeat (first|exact fu.refl _ _|refine fu.upd ?_ (by omega)))
 | false=>
  rcases rl with rfl|rfl
  ·cases hb:(((W:Nat):Int)==0) with
   | true=>
    simp only [bc,undef,seval,EJ,y5,y2,j5,bne,seval,e4,e6,fc,hb];exact fin _ (by repeat (first|exact fu.refl _ _|refine fu.upd ?_ (by omega)))
   | false=>
    simp only [bc,undef,seval,EJ,y5,y2,j5,bne,seval,e0,e4,e6,fc,hb,pq];refine FI I.cur hm (by simp) rfl (fun γ a8 hc aI=> ?_) (fun γ a8 aI γ' aa gd hc aQ=> ?_)
    ·have m5:γ.x.mu=8*W+1:=by omega
     obtain ⟨an,az,aB⟩:=a8.ok.dec (a8.ok.uU a8.iy hc.dj);have af:=a8.ok.fg;have hk:=a8.ok.k1;have hs:=a8.ok.s1;obtain ⟨r1,r2⟩:=cK.ast a8.ok hc.cap hc.md (by omega) (by omega) (by omega);have aK:=(I.old.rel a8).1;refine ⟨_,.hP true,bd,r1,?_,rfl,cK.qe,r2,cK.oL,hc.di,fun γ' aa gd eC=> ?_⟩
     ·show ((1+2*1+4*0+8*γ.x.W:Nat):Int)=_;have:γ.x.W=W:=by omega
      rw [this];congr 1;show _=8*W+3;omega
     ·simp only [bc,undef,seval,y5,y2,TU];exact L8 (aw:=true) (st:=st) (it:=it) (wt:=wt) (p:=p) hm hh eC (by rw [aa,gd];omega) (by simp [aZ,e0]) (by simp [aZ,e2]) (by simp [aZ,e3]) (by simp [aZ]) (by simp [aZ,e5]) (fun _=>rfl) I.uy sM kC
    ·simp only [bc,undef,seval,y5,y2,TU];exact L8 (aw:=false) (st:=st) (it:=it) (wt:=wt) (p:=p) hm hh hc (aQ p _ I.old).1 (by simp [aZ,e0]) (by simp [aZ,e2]) (by simp [aZ,e3]) (by simp [aZ,e4]) (by simp [aZ,e5]) I.oq I.uy sM kC
  ·simp only [bc,undef,seval,EJ,y5,y2,j5,bne,seval,e4,e6,fc];exact fin _ (by repeat (first|exact fu.refl _ _|refine fu.upd ?_ (by omega)))
end
end
section
open Go.ConcM (OsLater muBlock MuAt muA msA)
section
variable{P:Program}{tM tW:TypeId}{os0:eB}{Post:Value->World->Prop}{i:Nat}{s:ay}{h:ab}{K:ay->ab->Value->Prop}
theorem aqk(W:lT i s){b:bn}{st jD t:TypeId}(hs:P.underlying st=some (.pointer t))(hd:P.underlying jD=some .unsafePointer)(eJ:(P.info? t).map (fun i=>decide (i.size=0))=some false)(hh:h s.mu=none)
  (iC:∀γ,gW i s γ->K (γ.bB i γ.x #[]) h (.pointer (some (muA s.mu)))):
  iJ P false ((fC P tM tW os0 Post).hM i) b st jD (.pointer (some (muA s.mu))) s h (K:=⟨K⟩):=by
 show if (h s.mu).isSome=true then _ else _
 rw [hh,if_neg (by simp)];intro o aS y aF iO;refine Ls W fun a ops j rest k cs hk aA aQ hw γ w a8 eD dJ=> ?_;subst aA;have hc:w.cell? (muA s.mu)=some (.int .i32 γ.x.mu):=dJ.cellSt;have al:(execOp a.eval o).runT P w #[]=(.ok (.value (.pointer (some (muA s.mu)))) w,#[]):=by
  rw [u6];have e1:execOp a.eval o=(do pure (.value (<- convert st jD (.pointer (some (muA s.mu))))):Sem Next):=by
   unfold execOp;rw [aF,<- iO]
  rw [e1];refine Prod.ext ?_ ?_
  ·simp [run_convert_to_unsafe hs hd eJ hc,Result.andThen]
  ·simp [run_convert_to_unsafe hs hd eJ hc,events_convert_to_unsafe hs hd eJ hc,Result.evThen]
 have cj:=tq (P:=P) (main:=false) (rest:=rest) (k:=k) (cs:=cs) aQ hw (by unfold lE;rw [aF]) hk al rfl;rw [seen_none] at cj;exact ⟨γ.x,_,w,#[],cj,.refl a8.ok eD,Nat.le_refl _,rfl,fun _ _=>rfl,dJ,.refl _,by simp,iC γ a8⟩
end
end
section
open Go.ConcM (OsLater muBlock MuAt muA msA)
section
variable{tM tW:TypeId}{os0:eB}{Post:Value->World->Prop}{i:Nat}{bm s:ay}{h:ab}{bd bG:Nat}{g:List cT}
variable{K:eZ->Env->List Deferred->ay->ab->Prop}{e:Env}{md:a7}{bH:Nat}{t:Bool}
theorem aql:∀c<8,(c &&& 5=1)->c=1\/c=3:=by decide
theorem ait{n:Nat}{d:List Deferred}{h':ab}(hm:bm.mu=bG)(hh:h bG=none)(J:sN i bm bG bd g h n e d s h')
  (kx:∀e d s h',AT i bm bG bd g h e d s h'->K (.ext 0) e d s h') (kC:∀e d s h' m,m<n->sN i bm bG bd g h m e d s h'->K .cB e d s h'):
  cF Tryz.prog false (ep tM tW os0 Post i) 139 (fE 172) Fu K e d s h':=by
 obtain ⟨rfl,rfl,aw,st,it,wt,W,c,p,I,rfl⟩:=J;have e4:=I.e4;have e5:=I.e5;have e6:=I.e6;have qT:=I.qT;have fc:W<134217728:=by omega
 have rest:∀e' ai,De i bm bG bd g e' ai aw st it wt W c p->cF Tryz.prog false (ep tM tW os0 Post i) 139 (fE 172) BH (mj 1 K) e' [] ai h':=fun e' ai lA=>by
  refine avL lA.qT lA.eN lA.e3 lA.e4 lA.e6 (fun h=>(lA.Iy h).1) fun e2 bX v2=> ?_;refine anW (K:=mj 1 K) hm hh ⟨by rw [bX 0 (by omega),lA.e0],by rw [bX 2 (by omega),lA.e2],by rw [bX 3 (by omega),lA.e3],by rw [bX 4 (by omega),lA.e4],by rw [bX 5 (by omega),lA.e5],by rw [bX 6 (by omega),lA.e6],lA.cur,lA.eN,lA.qT,lA.Iy,lA.oq,lA.uy,lA.sM,lA.old⟩ v2 (fun e d s h2 q=> ?_) fun e d s h2 m gB q=> ?_
  ·rw [Z7 _ _ _ _ _ _ _ (by simp)];exact kx _ _ _ _ q
  ·rw [Z5];exact kC _ _ _ _ m gB q
 have keep:∀e' ai,fu 7 e e'->dO i bm ai (.hP aw) 1 bd false g->Old ai p (8*W+c)->De i bm bG bd g e' ai aw st it wt W c p:=fun e' ai k hc aQ=>
  ⟨by rw [k 0 (by omega),I.e0],by rw [k 2 (by omega),I.e2],by rw [k 3 (by omega),I.e3],by rw [k 4 (by omega),I.e4],by rw [k 5 (by omega),I.e5],by rw [k 6 (by omega),I.e6],hc,I.eN,I.qT,I.Iy,I.oq,I.uy,I.sM,aQ⟩
 have ot:=I.eN;by_cases gG:c &&& 5=1
 ·have hb:(((c &&& 5:Nat):Int)==1)=true:=by rw [gG];rfl
  simp only [bc,undef,seval,TW,TV,EL,EK,j5,bne,seval,fc,ot,e5,e6,hb];refine anF I.cur.w anL fun γ t a8 aj=> ?_;have eC:=I.cur.bB (evs:=#[]) a8 (x':=γ.x) (I.cur.rel a8).md (I.cur.rel a8).di q4;have hold:=I.old.bB (evs:=#[]) a8 (x':=γ.x) (Nat.le_refl _) (fun e=>absurd rfl e);cases t with
  | true=>
   have Pn:it<4:=by
    refine Int.lt_of_not_ge fun h=> ?_;have:=aj h;cases this
   simp only [bc,undef,seval,EL,EK];refine aln (aw:=aw) (st:=st) (it:=it) (wt:=wt) (W:=W) (c:=c) (p:=p) hm hh (keep _ _ (by repeat (first|exact fu.refl _ _|refine fu.upd ?_ (by omega))) eC hold) (aql c ot gG) Pn fun e d s h2 m gB q=> ?_;rw [Qi,Qj];exact kC _ _ _ _ m gB q
  | false=>
   simp only [bc,undef,seval,EL,EK];exact rest _ _ (keep _ _ (by repeat (first|exact fu.refl _ _|refine fu.upd ?_ (by omega))) eC hold)
 ·have hb:(((c &&& 5:Nat):Int)==1)=false:=by
   simp only [beq_eq_false_iff_ne,ne_eq];omega
  simp only [bc,undef,seval,TW,TV,EL,EK,j5,bne,seval,fc,ot,e5,e6,hb];exact rest _ _ (keep _ _ (by repeat (first|exact fu.refl _ _|refine fu.upd ?_ (by omega))) I.cur I.old)
def zE(i:Nat)(bm:ay)(bd:Nat)(g:List cT)(h0:ab)(s:ay)(h:ab)(v:Value):Prop:=
 ∃bk:ab,dO i bm s .own 0 bd true g/\s.I s.cL bk/\bk.kR/\h=h0.add bk/\∀b x,bk b=some x->h0 b=none
theorem L9:deafBehind 1 #[⟨.mark .enable,false,true⟩]=0:=by simp [deafBehind]
theorem US:deafBehind 0 #[⟨.mark .disable,false,true⟩]=1:=by simp [deafBehind]
theorem Wd{x:Array Value}{K:ay->ab->Value->Prop}(hm:bm.mu=bG)(cur:dO i bm s .own 0 bd false g)(aa:x=#[.pointer (some ⟨bG,0,none⟩)])
  (k:∀ai bk,dO i bm ai .own 0 bd true g->ai.I ai.cL bk->bk.kR->(∀b x,bk b=some x->h b=none)->K ai (h.add bk) (.tuple #[])):
  eX Tryz.prog false (ep tM tW os0 Post i) 148 x s h (K:=⟨K⟩):=by
 obtain rfl:s.mu=bG:=cur.c7.mu.trans hm;subst aa;refine anG cur.w zD rfl cur.cap cur.md cur.bH (fun e=>by have:=cur.cw.1 e;cases this) fun γ a8 bU uW hd Qo=> ?_;have c:=cur.rel a8;exact k _ _ ⟨⟨c.w.pos,c.w.on,c.w.wk,c.w.n0,c.w.aR⟩,c.cap,c.dj,⟨c.c7.aR,c.c7.cap,c.c7.n0,c.c7.mu,c.c7.wg,c.c7.on,c.c7.I,c.c7.full,c.c7.wd⟩,c.md,c.di,c.bH,⟨fun _=>rfl,fun _=>rfl⟩,c.cL⟩ bU uW Qo
theorem as2:Tryz.prog.underlying 289=some (.pointer 201):=by kernel_rfl
theorem An:Tryz.prog.underlying 170=some .unsafePointer:=by kernel_rfl
theorem z201:(Tryz.prog.info? 201).map (fun i=>decide (i.size=0))=some false:=by kernel_rfl
theorem Nr{K:ay->ab->Value->Prop}{b:bn}(c:dO i bm s md bH bd t g)(hm:bm.mu=bG)(hh:h bG=none)
  (k:∀γ,gW i s γ->dO i bm (γ.bB i γ.x #[]) md bH bd t g->K (γ.bB i γ.x #[]) h (.pointer (some ⟨bG,0,none⟩))):
  iJ Tryz.prog false (ep tM tW os0 Post i) b 289 170 (.pointer (some ⟨bG,0,none⟩)) s h (K:=⟨K⟩):=by
 obtain rfl:s.mu=bG:=c.c7.mu.trans hm;have QB:∀γ:ay,gW i s γ->K (γ.bB i γ.x #[]) h (.pointer (some (muA s.mu))):=fun γ a8=>k γ a8 (c.bB a8 (c.rel a8).md (c.rel a8).di q4);exact aqk c.w as2 An z201 hh QB
theorem anX{K:eZ->Env->List Deferred->ay->ab->Prop}(hm:bm.mu=bG)(hh:h bG=none)(cur:dO i bm s .own 1 bd false g)(e0:e 0=.pointer (some ⟨bG,0,none⟩))
  (k:∀e ai h' v,zE i bm bd g h ai h' v->K .cB e [] ai h'):
  cF Tryz.prog false (ep tM tW os0 Post i) 139 (fE 172) Gi K e [] s h:=by
 simp only [bc,undef,seval,ahZ,ahY];refine BV cur.w (.inr rfl) k6 fun γ a8=> ?_;have hc:=cur.bB (evs:=#[⟨.mark .enable,false,true⟩]) a8 (x':=γ.x) (cur.rel a8).md (cur.rel a8).di L9;simp only [bc,undef,seval,ahX,e0];refine Nr (b:=fE 172) hc hm hh fun dk fR cN=> ?_;refine Wd hm cN rfl fun ai bk c1 c2 c3 c4=> ?_;exact k _ _ _ (.tuple #[]) ⟨bk,c1,c2,c3,rfl,c4⟩
theorem ad9(hm:bm.mu=bG)(hh:h bG=none)(cur:dO i bm s .out 1 (bd+1) false g):
  bI Tryz.prog false (ep tM tW os0 Post i) 172 #[.pointer (some ⟨bG,0,none⟩)] s h (zE i bm bd g h):=by
 refine cc (n:=139) (args:=[.pointer (some ⟨bG,0,none⟩)]) Tryz.func172 afJ rfl (by simp) ak1 ?_;have ret:∀e ai h' v,zE i bm bd g h ai h' v->er Tryz.prog Tryz.f172 (zE i bm bd g h) 139 e [] ai h':=fun e ai h' v q=>by
  simp only [er,kF,results,show Tryz.f172.results=#[] from rfl,aV];simp [bh];exact q
 simp only [bc,undef,seval,ah6,ah5,ah4,ah3,ah2,dE,List.getD_cons_zero,pq];refine FH (b:=fE 172) cur hm hh G2 fun γ a8 hc eD=> ?_;obtain ⟨r1,r2⟩:=cK.start a8.ok hc.cap hc.md (by rw [hc.di];omega);refine ⟨_,⟨r1,cK.L6,Nat.le_of_lt r2,fun e=>absurd rfl e,fun e=>(by have:=hc.cw.1 e;cases this),fun e=>by rw [hc.md] at e;cases e⟩,rfl,rfl,?_⟩;have eC:=cur.bB (evs:=#[]) a8 (x':=γ.x.nF i (.hP false) γ.x.L γ.x.K γ.x.S γ.x.W γ.x.M) cK.Xk (by rw [cK.V9,hc.di]) q4;rw [show bd+1- 1=bd from rfl] at eC;simp only [bc,undef,seval,ah1,ah0,afI];refine eG (fun n e d s h'=>sN i bm bG bd g h n e d s h') (fun n e d s h' J=> ?_) (m:=6*(γ.bB i (γ.x.nF i (.hP false) γ.x.L γ.x.K γ.x.S γ.x.W γ.x.M) #[]).x.cf γ.cap+(4- 0:Int).toNat) ?_
 ·refine ait hm hh J (fun e d s h' q=> ?_) fun e d s h' m gB q=> ?_
  ·obtain ⟨rfl,rfl,fA,an⟩:=q;rw [Qi,Qj];simp only [bc,undef,seval];refine anX hm hh an fA fun e ai h' v q=> ?_;exact ret e ai h' v q
  ·exact ⟨m,gB,q⟩
 ·exact G4 (aw:=false) (st:=false) (wt:=0) (it:=0) (γ:=γ.bB i (γ.x.nF i (.hP false) γ.x.L γ.x.K γ.x.S γ.x.W γ.x.M) #[]) r1 (alj a8.iy hc.w.n0) eC (by simp [aZ,dE]) (by simp [aZ]) (by simp [aZ]) (by simp [aZ]) (by simp [aZ]) (by simp [aZ];rfl) (fun h=>h) (by omega) (by omega)
end
end
noncomputable def Ns:Code:=Tryz.f100.body.getD .skip
def aiu:=aT Ns (.region _ [_,_,_,_].toArray _) rfl
theorem afV:Tryz.f100.body=some Ns:=by kernel_rfl
theorem alo:ga 6 Ns=true:=by kernel_rfl
noncomputable def Nt:Code:=Tryz.f102.body.getD .skip
def aiv:=aT Nt (.region _ [_,_,_,_].toArray _) rfl
theorem afW:Tryz.f102.body=some Nt:=by kernel_rfl
theorem alp:ga 6 Nt=true:=by kernel_rfl
section
open Go.ConcM (OsLater muBlock MuAt muA msA)
section
variable{tM tW:TypeId}{os0:eB}{Post:Value->World->Prop}{i:Nat}{bm s:ay}{h:ab}{bd bG:Nat}{g:List cT}
theorem nt{P:Program}{fn:Func}{ah:Type}{n:Nat}{gS:ah->ab->Value->Prop}{e:Env}{s:ah}{h:ab}(al:fn.results=#[])(p:gS s h (.tuple #[])):er P fn gS n e [] s h:=by
 simp only [er,kF,results,al,aV];simp [bh];exact p
theorem call172:bP Tryz.prog 172=true:=by kernel_rfl
theorem call174:bP Tryz.prog 174=true:=by kernel_rfl
theorem call143:bP Tryz.prog 143=true:=by kernel_rfl
theorem call147:bP Tryz.prog 147=true:=by kernel_rfl
theorem call100:bP Tryz.prog 100=true:=by kernel_rfl
theorem call102:bP Tryz.prog 102=true:=by kernel_rfl
theorem afX(hm:bm.mu=bG)(hh:h bG=none)(cur:dO i bm s .out 0 (bd+1) false g):
  bI Tryz.prog false (ep tM tW os0 Post i) 143 #[.pointer (some ⟨bG,0,none⟩)] s h (zE i bm bd g h):=by
 refine cc (n:=13) (args:=[.pointer (some ⟨bG,0,none⟩)]) Tryz.func143 ae8 rfl (by simp) akY ?_;simp only [bc,undef,seval,UH,UG,UF,dE,List.getD_cons_zero,pq];refine BV cur.w (.inl rfl) se fun γ a8=> ?_;have hc:=cur.bB (evs:=#[⟨.mark .disable,false,true⟩]) a8 (x':=γ.x) (cur.rel a8).md (cur.rel a8).di US;simp only [bc,undef,seval,UH,UG,UF,dE,List.getD_cons_zero,pq];refine FI hc hm (by simp) rfl (fun dk fR cN aI=> ?_) (fun dk fR aI γ' aa gd cN aQ=> ?_)
 ·have h0:dk.x.mu=0:=by omega
  obtain ⟨r1,r2⟩:=cK.asr fR.ok cN.cap cN.md (by rw [cN.di];omega) h0;refine ⟨_,.own,bd,r1,rfl,rfl,cK.L6,r2,cK.Xk,by rw [cK.V9,cN.di];rfl,fun γ' aa gd eC=> ?_⟩;simp only [bc,undef,seval,UE,ahW,ahV,ahU];refine BV eC.w (.inr rfl) k6 fun QC QD=> ?_;have ed:=eC.bB (evs:=#[⟨.mark .enable,false,true⟩]) QD (x':=QC.x) (eC.rel QD).md (eC.rel QD).di L9;simp only [bc,undef,seval,ahT,dE,List.getD_cons_zero];refine Nr (b:=fE 143) ed hm hh fun IB IC l1=> ?_;refine Wd hm l1 rfl fun ai bk c1 c2 c3 c4=> ?_;simp only [bc,undef,seval];exact nt rfl ⟨bk,c1,c2,c3,rfl,c4⟩
 ·simp only [bc,undef,seval,ahS,UE,dE,List.getD_cons_zero];refine .inl ⟨call172,(ad9 hm hh cN).mono fun ai h' v q=> ?_⟩;simp only [bc,undef,seval];exact nt rfl q
theorem anY(hm:bm.mu=bG)(hh:h bG=none)(cur:dO i bm s .out 0 (bd+1) false g):
  bI Tryz.prog false (ep tM tW os0 Post i) 100 #[.pointer (some ⟨bG,0,none⟩)] s h (zE i bm bd g h):=by
 refine cc (n:=6) (args:=[.pointer (some ⟨bG,0,none⟩)]) Tryz.func100 afV rfl (by simp) alo ?_;simp only [bc,undef,seval,aiu,dE,List.getD_cons_zero,V4];refine .inl ⟨call143,(afX hm hh cur).mono fun ai h' v q=> ?_⟩;exact nt rfl q
end
end
section
variable{main:Bool}{ah:Type}{Sy:Sys ah}{s:ah}{h:ab}{b:bn}
theorem as3:zeroOf Tryz.prog 264=some .nilFunc:=by kernel_rfl
theorem as4:cy Tryz.prog 264=some 1:=by kernel_rfl
theorem call140:bP Tryz.prog 140=true:=by kernel_rfl
theorem aiw{ap bp nS l p:Nat}{bR:Int}{o:Bool}{x:b6}(oB:Nat->ah->Prop)(aa:x∈dv)(aA:∃o,h ap=some ⟨.cells #[.int .i64 bR] 3 (0,0),o⟩)
  (hb:∃arr o x y m n,h bp=some ⟨.cells arr 119 (0,0),o⟩/\arr[0]? =some (.slice x 2 m)/\arr[1]? =some (.slice y 2 n)) (aG:∃o,h nS=some ⟨.cells #[.slice (some ⟨p,0,none⟩) 1 1] 58 (0,0),o⟩)
  (aK:qh h p x o) (v7:gO 0 [x]<=bR) (z0:oB 0 s)
  (step:∀n,n<8->∀s1 h1,h.aD h1->oB n s1->(bR<gO 0 [x,fM n]->oB (n+1) s1)/\(gO 0 [x,fM n]<=bR->qd main Sy l x (fM n) s1 h1 (oB (n+1)))):
  bI Tryz.prog main Sy 140 #[mM l,br ap,br bp,br nS] s h fun ai h' v=>oB 8 ai/\h.aD h':=by
 refine cc (n:=10) (args:=[mM l,br ap,br bp,br nS]) Tryz.func140 aeQ rfl (by simp) akW ?_;simp only [bc,undef,seval,ahL,ahK,Uz,p6,p7,mM,br,w8];intro c1 fe;rw [wV (K:=⟨_⟩) as3];intro c2 cN;have iA:c2≠c1:=fun e=>by subst e;rw [dd] at cN;cases cN
 have rU:Value.nilFunc.cells=#[.nilFunc]:=rfl;have ach:(Value.func (Fn.yield l) #[] #[]).cells=#[mM l]:=rfl;rw [ach] at cN;rw [rU,ach];generalize e1:h.put c1 ⟨.cells #[mM l] 264,true⟩=h1 at cN ⊢;have bx:h.aD h1:=by rw [<- e1];exact hf fe
 have cj:∀(K:ab->Prop),au Tryz.prog (Instr.storeAt 264 (.pointer (some ⟨c2,0,none⟩)) (oK ap bp c1 c2)) (h1.put c2 ⟨.cells #[.nilFunc] 264,true⟩) (K:=⟨fun _=>K⟩)=K (h1.put c2 ⟨.cells #[oK ap bp c1 c2] 264,true⟩):=fun K=>by
  rw [y9 (K:=⟨_⟩) as4,show ((oK ap bp c1 c2).cells.size==1)=true from rfl,show (oK ap bp c1 c2).cells.toList=[oK ap bp c1 c2] from rfl,zj];simp only [BE];exact propext ⟨fun q=>q.2,fun q=>⟨rfl,q⟩⟩
 simp only [bc,undef,seval,Uz,p6,p7,br];rw [show (Value.func (Fn.func 141) #[] #[Value.pointer (some ⟨ap,0,none⟩),Value.pointer (some ⟨bp,0,none⟩),Value.pointer (some ⟨c1,0,none⟩),Value.pointer (some ⟨c2,0,none⟩)])=oK ap bp c1 c2 from rfl,cj];generalize e2:h1.put c2 ⟨.cells #[oK ap bp c1 c2] 264,true⟩=h2;have bM:h.aD h2:=by rw [<- e2];exact le_trans bx (hf cN)
 have eF:h2 c2=some ⟨.cells #[oK ap bp c1 c2] 264 (0,0),true⟩:=by rw [<- e2,dd]
 have ay3:h2 c1=some ⟨.cells #[mM l] 264 (0,0),true⟩:=by rw [<- e2,cG (fun e=>by subst e;rw [<- e1,dd] at cN;cases cN),<- e1,dd]
 obtain ⟨o2,aG⟩:=aG;have pV:∀(b:bn) (K:ah->ab->Value->Prop),@fa Tryz.prog main _ Sy b 264 (.pointer (some ⟨c2,0,none⟩)) s h2 ⟨K⟩=K s h2 (oK ap bp c1 c2):=fun b K=>jN (K:=⟨K⟩) Oz (A:=⟨c2,0,none⟩) eF rfl rfl;have lz:∀(b:bn) (K:ah->ab->Value->Prop),@fa Tryz.prog main _ Sy b 58 (.pointer (some ⟨nS,0,none⟩)) s h2 ⟨K⟩=K s h2 (.slice (some ⟨p,0,none⟩) 1 1):=fun b K=>jN (K:=⟨K⟩) Cr (A:=⟨nS,0,none⟩) (bM _ _ aG) rfl rfl;obtain ⟨aci,aA⟩:=aA;obtain ⟨arr,fj,oA,kB,fx,db,jc,hY⟩:=hb;have C:Ctx h2 ap bp c1 c2 l bR:=⟨⟨aci,bM _ _ aA⟩,⟨arr,fj,oA,kB,fx,db,bM _ _ jc,hY⟩,⟨true,ay3⟩,⟨true,eF⟩⟩;simp only [bc,undef,seval,ahJ,p6,p7,pV,lz];simp only [bc,undef,seval,oK];rw [Bs (K:=⟨_⟩) call141];refine bI.mono (fun ai h' v ⟨z,le,_⟩=> ?_) (ais oB aa C (bM _ _ aK) v7 z0 (fun n ao s1 h3 bK=>step n ao s1 h3 (le_trans bM bK)));exact nt rfl ⟨z,le_trans bM le⟩
end
section
variable{main:Bool}{ah:Type}{Sy:Sys ah}{s:ah}{h:ab}{b:bn}
theorem call99:bP Tryz.prog 99=true:=by kernel_rfl
def Nu(ap bp nS:Nat):Value:=.func (.func 140) #[] #[br ap,br bp,br nS]
theorem alq{j7:Array Value}{sl:Value}{bR:Int}{p n k:Nat}(hs:sl=.slice (some ⟨p,0,none⟩) n k):
  bI Tryz.prog main Sy 99 #[.agg j7,sl,.int .i64 bR] s h fun ai h' v=>ai=s/\h.aD h'/\∃ap bp nS,v=Nu ap bp nS/\h' ap=some ⟨.cells #[.int .i64 bR] 3 (0,0),true⟩/\h' bp=some ⟨.cells j7 119 (0,0),true⟩/\h' nS=some ⟨.cells #[sl] 58 (0,0),true⟩:=by
 subst hs;refine cc (n:=8) (args:=[.agg j7,.slice (some ⟨p,0,none⟩) n k,.int .i64 bR]) Tryz.func99 ahD rfl (by simp) anD ?_;simp only [bc,undef,seval,akU,akT,p6,p7,w8];intro c1 fe c2 cN c3 ed;refine bT Tryz.results99 (by simp) ?_;have bx:=hf (x:=(⟨.cells (Value.agg j7).cells 119 (0,0),true⟩:eI)) fe;have aak:c2≠c1:=fun e=>by subst e;rw [dd] at cN;cases cN
 have aal:c3≠c2:=fun e=>by subst e;rw [dd] at ed;cases ed
 have avY:c3≠c1:=fun e=>by subst e;rw [cG (Ne.symm aak),dd] at ed;cases ed
 refine ⟨rfl,le_trans bx (le_trans (hf cN) (hf ed)),c3,c1,c2,by simp [aZ,Nu,br],dd,?_,?_⟩
 ·rw [cG (Ne.symm avY),cG (Ne.symm aak),dd];rfl
 ·rw [cG (Ne.symm aal),dd];rfl
end
end
end Go.Nk
