/- Part Pae of the proof of ButtBack: lemmas. -/
import Derived.Test.YthgephlghkjiaaaGreatDoorPad
set_option maxRecDepth 100000
set_option maxHeartbeats 4000000
set_option linter.all false
namespace Go.Nk
noncomputable section
open Go Go.Conc Go.Proofs
section
variable{P:Program}{bj:Nat}{ρ:bq}{H:aL}{h:ab}
theorem St{b o:Nat}{arr:Array Value}{t:TypeId}{f:Nat×Nat}{p:Bool}(hb:h b=some ⟨.cells arr t f,p⟩):∀(n i:Nat),o+i+n<=arr.size->h.iU ⟨b,o,none⟩ i n=some ((arr.toList.drop (o+i)).take n):=by
 intro n
 induction n with
 | zero=>intro i hi;rfl
 | succ n aN=>
  intro i hi;have hc:h.cell? ⟨b,o+i,none⟩=arr[o+i]? :=by simp [ab.cell?,hb]
  rw [p5,hc,aN (i+1) (by omega),Array.getElem?_eq_getElem (by omega)];simp only [q9];have af:o+i<arr.toList.length:=by simpa using (by omega:o+i<arr.size)
  rw [List.drop_eq_getElem_cons af,List.take_succ_cons];simp [Nat.add_assoc]
theorem SF{b o:Nat}{t:TypeId}{K:ab->Prop}:∀(vs l:List Value) (i:Nat) (h:ab),h b=some ⟨.cells ⟨l⟩ t (0,0),true⟩->o+i+vs.length<=l.length->qa vs=true->
  K (h.put b ⟨.cells ⟨hv (o+i) vs l⟩ t (0,0),true⟩)->oI h ⟨b,o,none⟩ i vs K:=by
 intro vs
 induction vs with
 | nil=>
  intro l i h hb _ _ k;rw [yW] at k;have:h.put b ⟨.cells ⟨l⟩ t (0,0),true⟩=h:=by funext c;simp only [ab.put];split<;>simp_all
  rw [this] at k;exact k
 | cons v vs aN=>
  intro l i h hb af aQ k;simp only [List.length_cons] at af;simp only [qa] at aQ;have c9:jG v=true/\qa vs=true:=by cases aI:jG v<;>simp_all
  have hc:h.cell? ⟨b,o+i,none⟩=(⟨l⟩:Array Value)[o+i]? :=by simp [ab.cell?,hb]
  have hs:h.setCell ⟨b,o+i,none⟩ v=h.put b ⟨.cells ⟨l.set (o+i) v⟩ t (0,0),true⟩:=by
   rw [S2 (a:=⟨b,o+i,none⟩) hb];simp
  refine ⟨⟨c9.1,?_⟩,?_⟩
  ·rw [k5];refine ⟨by simp [ab.owns,hb],?_,?_⟩
   ·rw [hc,Array.getElem?_eq_getElem (by simpa using (by omega:o+i<l.length))];rfl
   ·simp [ab.frozen?,hb]
  ·rw [k5,hs];refine aN (l.set (o+i) v) (i+1) _ (r5 ..) (by simp;omega) c9.2 ?_;rw [qc];have e:o+(i+1)=(o+i)+1:=by omega
   rw [e,S5 (by omega)];exact k
theorem Uq{β:Type}{c o n:Nat}{k:List Value->Option β}{r:β}(aa:qA H c o n k=some r):
  ∃own lo t cs,H.get c=some (.cs own lo t cs)/\o+n<=cs.length+(if n=0 then o else 0)/\k ((cs.drop o).take n)=some r:=by
 unfold qA at aa;split at aa
 ·rename_i own lo t cs aG;rw [wS] at aa;obtain ⟨h1,h2⟩:=za _ _ _ _ aa;refine ⟨own,lo,t,cs,aG,?_,h2⟩;simp at h1;split<;>omega
 ·cases aa
theorem zA{β:Type}(S:cD P bj ρ H.get H.ar h){c o n b kk:Nat}(hc:ρ c=some (b,kk)){k:List Value->Option β}{r:β}(aa:qA H c o n k=some r):
  ∃vs ev,k vs=some r/\cV ρ vs ev/\vs.length=n/\h.iU ⟨b,o,none⟩ 0 n=some ev/\∃y,h b=some y:=by
 obtain ⟨own,lo,t,cs,aG,ao,hk⟩:=Uq aa;obtain ⟨b9,k',al,hb⟩:=S.blk c _ aG;rw [hc] at al;cases al;obtain ⟨arr,fr,b2,rest,h1,h2,h3,h4,h5⟩:=hb;refine ⟨_,(b2.drop o).take n,hk,(h4.drop o).take n,?_,?_,_,h1⟩
 ·simp;split at ao<;>omega
 ·by_cases h0:n=0
  ·subst h0;simp [ab.iU]
  ·rw [if_neg h0] at ao;have af:=h4.length;have eJ:arr.size=b2.length+rest.length:=by rw [<- Array.length_toList,h3,List.length_append]
   rw [St h1 n 0 (by omega),h3,Nat.add_zero];congr 1;rw [List.drop_append_of_le_length (by omega),List.take_append_of_le_length (by simp;omega)]
theorem GR{c:Nat}{x:cn}(af:Nat.ble H.cg c=true)(aG:H.get c=some x)(aI:x.live=true):gH H c:=⟨Nat.le_of_ble_eq_true af,x,aG,aI⟩
theorem K5(S:cD P bj ρ H.get H.ar h){c b kk:Nat}{x y:cn}{o:eI}(aG:H.get c=some x)(hw:gH H c)(af:x.live=true)(hc:ρ c=some (b,kk))(ax:Bk P ρ kk y (some o)):
  cD P bj ρ (H.set c y).get (H.set c y).ar (h.put b o)/\gu H ρ h (H.set c y) ρ (h.put b o):=by
 have bY:c<H.ar:=Nat.lt_of_not_le fun iI=>by rw [S.ek c iI] at hc;cases hc
 refine ⟨⟨fun d z hd=> ?_,fun d e u v bb k k' hd he hu aI h1 h2=> ?_,S.ek,S.sn⟩,⟨.refl ρ,fun _ _=>rfl,Nat.le_refl _,rfl,rfl,fun d hd ao=> ?_,fun bb z hb hg=> ?_,fun d u bb k hd ao af h1=> ?_⟩⟩
 ·rw [aL.tu aG] at hd;split at hd
  ·rename_i e;subst e;cases hd;exact ⟨b,kk,hc,by rw [r5];exact ax⟩
  ·rename_i e;obtain ⟨bb,k,h1,h2⟩:=S.blk d z hd;refine ⟨bb,k,h1,?_⟩;cases aH:z.live with
   | false=>cases z<;>simp [cn.live] at aH;trivial
   | true=>
    have:bb≠b:=fun pS=>e (S.inj d c z x bb k kk hd aG aH af h1 (by rw [pS];exact hc));rw [oH _ _ this];exact h2
 ·rw [aL.tu aG] at hd he;split at hd<;>split at he<;>rename_i e1 e2
  ·rw [e1,e2]
  ·subst e1;exact (S.inj d e x v bb k k' aG he af aI h1 h2)
  ·subst e2;exact (S.inj d e u x bb k k' hd aG hu af h1 h2)
  ·exact S.inj d e u v bb k k' hd he hu aI h1 h2
 ·rw [aL.wT,if_neg (fun e=>ao (by rw [e];exact hw))]
 ·have:bb≠b:=fun e=>hg c kk hw (by rw [e];exact hc);rw [oH _ _ this];exact hb
 ·rw [S.ek d ao] at h1;cases h1
theorem BR{β:Type}(S:cD P bj ρ H.get H.ar h){c o b kk:Nat}(hc:ρ c=some (b,kk)){vs ev:List Value}(aI:cV ρ vs ev){k:aL->Option β}{r:β}(aa:uf H c o vs k=some r):
  ∃H1 h1,k H1=some r/\cD P bj ρ H1.get H1.ar h1/\gu H ρ h H1 ρ h1/\∀K:ab->Prop,K h1->oI h ⟨b,o,none⟩ 0 ev K:=by
 unfold uf at aa;split at aa
 ·rename_i lo t cs aG;cases af:Nat.ble H.cg c with
  | false=>rw [af] at aa;cases aa
  | true=>
   rw [af,cond_true] at aa;cases aQ:qa vs with
   | false=>rw [aQ] at aa;cases aa
   | true=>
    rw [aQ,cond_true] at aa;obtain ⟨ao,hk⟩:=zk _ _ _ _ _ aa;rw [aL.nX] at hk;obtain ⟨b9,k',al,hb⟩:=S.blk c _ aG;rw [hc] at al;cases al;obtain ⟨arr,fr,b2,rest,h1,h2,h3,h4,h5,h6⟩:=hb;have ab8:=h2 rfl;subst ab8;obtain ⟨l⟩:=arr;simp only at h3;subst h3;have hlen:=h4.length;have C0:=aI.length;have Ie:hv o ev (b2++rest)=hv o ev b2++rest:=by
     rcases ao with rfl|ao
     ·cases aI;simp [yW]
     ·simp only [hv];rw [List.take_append_of_le_length (by omega),List.drop_append_of_le_length (by omega)];simp
    have ax:Bk P ρ kk (.cs true lo t (hv o vs cs)) (some ⟨.cells ⟨hv o ev (b2++rest)⟩ t (0,0),true⟩):=by
     refine ⟨_,true,hv o ev b2,rest,rfl,fun _=>rfl,Ie,h4.hv aI o,h5,fun e=> ?_⟩;obtain ⟨bo,s1,s2⟩:=h6 e;refine ⟨bo,s1,?_⟩;rw [<- s2,Ie];rcases ao with rfl|ao
     ·cases aI;simp [yW]
     ·simp only [List.size_toArray,List.length_append,Sz (show o+ev.length<=b2.length by omega)]
    obtain ⟨s1,s2⟩:=K5 S aG (GR af aG rfl) rfl hc ax;refine ⟨_,_,hk,s1,s2,fun K iC=> ?_⟩;rcases ao with rfl|ao
    ·cases aI;rw [yW] at iC;have:h.put b ⟨.cells ⟨b2++rest⟩ t (0,0),true⟩=h:=by funext d;simp only [ab.put];split<;>simp_all
     rw [this] at iC;exact iC
    ·exact SF ev (b2++rest) 0 h h1 (by simp;omega) (by rw [aI.YO];exact aQ) iC
 ·cases aa
def bq.ext(ρ:bq)(c b k:Nat):bq:=fun d=>if d=c then some (b,k) else ρ d
theorem bq.zB{ρ:bq}{c b k:Nat}(hc:ρ c=none):ρ.aD (ρ.ext c b k):=fun d x hd=>by
 unfold bq.ext;split
 ·rename_i e;subst e;rw [hc] at hd;cases hd
 ·exact hd
theorem bq.mL{ρ:bq}{c b k:Nat}:ρ.ext c b k c=some (b,k):=by simp [bq.ext]
theorem bq.mf{ρ:bq}{c b k d:Nat}(hd:d≠c):ρ.ext c b k d=ρ d:=by simp [bq.ext,hd]
theorem Fh(S:cD P bj ρ H.get H.ar h){b kk:Nat}{x:cn}{o:eI}(cU:bj<=H.ar)(hb:h b=none)(aa:Bk P (ρ.ext H.ar b kk) kk x (some o)):
  cD P bj (ρ.ext H.ar b kk) (H.new x).get (H.new x).ar (h.put b o)/\gu H ρ h (H.new x) (ρ.ext H.ar b kk) (h.put b o):=by
 have sH:=S.ek H.ar (Nat.le_refl _);have le:=bq.zB (b:=b) (k:=kk) sH;have old:∀d z,(H.new x).get d=some z->d≠H.ar->H.get d=some z:=fun d z hd b7=>by
  rw [aL.w5,if_neg b7] at hd;exact hd
 have same:∀z,(H.new x).get H.ar=some z->z=x:=fun z hd=>by
  rw [aL.w5,if_pos rfl] at hd;split at hd
  ·cases hd
  ·cases hd;rfl
 have apart:∀d z bb k,H.get d=some z->z.live=true->ρ d=some (bb,k)->bb≠b:=fun d z bb k hd af al e=>by
  obtain ⟨b9,k',h1,h2⟩:=S.blk d z hd;rw [al] at h1;cases h1;obtain ⟨y,ax⟩:=h2.isSome af;rw [e,hb] at ax;cases ax
 refine ⟨⟨fun d z hd=> ?_,fun d e u v bb k k' hd he hu aI h1 h2=> ?_,fun d hd=> ?_,fun g aG=> ?_⟩,⟨le,fun d hd=>bq.mf (by omega),Nat.le_succ _,rfl,rfl,fun d hd ao=> ?_,fun bb z ry hg=> ?_,fun d u bb k hd ao af h1=> ?_⟩⟩
 ·by_cases e:d=H.ar
  ·subst e;rw [same z hd];exact ⟨b,kk,bq.mL,by rw [r5];exact aa⟩
  ·have fo:=old d z hd e;obtain ⟨bb,k,h1,h2⟩:=S.blk d z fo;refine ⟨bb,k,by rw [bq.mf e];exact h1,?_⟩;cases aH:z.live with
   | false=>cases z<;>simp [cn.live] at aH;trivial
   | true=>rw [oH _ _ (apart d z bb k fo aH h1)];exact h2.mono le
 ·by_cases e1:d=H.ar<;>by_cases e2:e=H.ar
  ·rw [e1,e2]
  ·subst e1;rw [bq.mL] at h1;cases h1;rw [bq.mf e2] at h2;exact absurd rfl (apart e v b k' (old e v he e2) aI h2)
  ·subst e2;rw [bq.mL] at h2;cases h2;rw [bq.mf e1] at h1;exact absurd rfl (apart d u b k (old d u hd e1) hu h1)
  ·rw [bq.mf e1] at h1;rw [bq.mf e2] at h2;exact S.inj d e u v bb k k' (old d u hd e1) (old e v he e2) hu aI h1 h2
 ·have:H.ar+1<=d:=hd;rw [bq.mf (by omega)];exact S.ek d (by omega)
 ·rw [bq.mf (by omega)];exact S.sn g aG
 ·rw [aL.u9,if_neg (by omega)]
 ·have:bb≠b:=fun e=>by rw [e,hb] at ry;cases ry
  rw [oH _ _ this];exact ry
 ·by_cases e:d=H.ar
  ·subst e;rw [bq.mL] at h1;cases h1;exact .inl hb
  ·have fo:=old d u hd e;rw [bq.mf e,S.ek d ao] at h1;cases h1
end
def fU(P:Program)(bj:Nat)(ρ:bq)(H:aL)(h:ab)(v:Value)(H':aL)(K:Value->ab->Prop):Prop:=
 ∀bA h' bQ,cD P bj bA H'.get H'.ar h'->bw bA v bQ->gu H ρ h H' bA h'->K bQ h'
section
variable{P:Program}{bj:Nat}{ρ:bq}{H H':aL}{h:ab}{call:FuncId->List Value->aL->Option (Value×aL)}{e:cJ}{v:Value}{K:Value->ab->Prop}
theorem fU.same(S:cD P bj ρ H.get H.ar h)(k:fU P bj ρ H h v H K){bQ:Value}(aI:bw ρ v bQ):K bQ h:=k ρ h bQ S aI (gu.refl S)
theorem akf(S:cD P bj ρ H.get H.ar h){c x y:Operand}{b2 x' c8:Value}(aa:cA call e H (.pick c x y)=some (v,H'))(hc:bw ρ (b5 e c) b2)(h1:bw ρ (b5 e x) x')(h2:bw ρ (b5 e y) c8)(k:fU P bj ρ H h v H' K):
  @au P _ (xe b2 x' c8) h ⟨K⟩:=by
 simp only [cA] at aa;split at aa
 ·rename_i he;cases aa;rw [he] at hc;cases hc;exact k.same S h1
 ·rename_i he;cases aa;rw [he] at hc;cases hc;exact k.same S h2
 ·cases aa
theorem ahf(S:cD P bj ρ H.get H.ar h)(cU:bj<=H.ar){t:TypeId}{z:Value}(aH:zeroOf P t=some z)(aK:lL (ew z)=true)(aa:cA call e H (.alloc t (ew z))=some (v,H'))(k:fU P bj ρ H h v H' K):
  @au P _ (Instr.alloc t true (.tuple #[])) h ⟨K⟩:=by
 rw [KA (K:=⟨K⟩) aH];intro b hb;simp only [cA,aL.qZ,Option.some.injEq,Prod.mk.injEq] at aa;obtain ⟨rfl,rfl⟩:=aa;obtain ⟨s1,s2⟩:=Fh S (kk:=0) (x:=.cs true false t (ew z)) (o:=⟨.cells z.cells t,true⟩) cU hb ⟨_,true,z.cells.toList,[],rfl,fun _=>rfl,by simp,by rw [<- tn];exact wP aK,fun _=>rfl,fun e=>by cases e⟩;exact k _ _ _ s1 (.ptr 0 bq.mL) s2
theorem J7(S:cD P bj ρ H.get H.ar h)(cU:bj<=H.ar){t:TypeId}{l dG:List Value}{b:Nat}(hb:h b=none)(af:cV ρ l dG):
  cD P bj (ρ.ext H.ar b 0) (H.new (.cs true false t l)).get (H.new (.cs true false t l)).ar (h.put b ⟨.cells ⟨dG⟩ t,true⟩)/\gu H ρ h (H.new (.cs true false t l)) (ρ.ext H.ar b 0) (h.put b ⟨.cells ⟨dG⟩ t,true⟩):=
 Fh S (kk:=0) (x:=.cs true false t l) (o:=⟨.cells ⟨dG⟩ t,true⟩) cU hb ⟨_,true,dG,[],rfl,fun _=>rfl,by simp,af.mono (bq.zB (S.ek _ (Nat.le_refl _))),fun _=>rfl,fun e=>by cases e⟩
theorem am5(S:cD P bj ρ H.get H.ar h)(cU:bj<=H.ar){t n:Nat}{x:Operand}{x':Value}(aa:cA call e H (.box t n x)=some (v,H'))(h1:bw ρ (b5 e x) x')(k:fU P bj ρ H h v H' K):
  @au P _ (Instr.box t x') h ⟨K⟩:=by
 rw [w8 (K:=⟨K⟩)];intro b hb;simp only [cA,aL.qZ] at aa;cases af:Nat.beq (ew (b5 e x)).length n with
 | false=>rw [af] at aa;cases aa
 | true=>
  rw [af,cond_true] at aa;cases aa;obtain ⟨s1,s2⟩:=J7 S cU (t:=t) hb h1.cells;exact k _ _ _ s1 (.ptr 0 bq.mL) s2
theorem am6(S:cD P bj ρ H.get H.ar h){main:Bool}{ah:Type}{Sy:Sys ah}{b:bn}{s:ah}{t:TypeId}(aj:gq P t=some none){x:Operand}{x':Value}(aa:cA call e H (.H7 x)=some (v,H'))(h1:bw ρ (b5 e x) x'){uQ:ah->ab->Value->Prop}(k:fU P bj ρ H h v H' fun v h=>uQ s h v):
  @fa P main _ Sy b t x' s h ⟨uQ⟩:=by
 simp only [cA] at aa;split at aa
 ·rename_i c o he;rw [he] at h1;cases h1 with
  | ptr o al=>
   obtain ⟨vs,ev,k1,bX,eL,e8,y,A9⟩:=zA S al aa;rw [u7 (K:=⟨uQ⟩) (A:=⟨_,o,none⟩) A9,KB (K:=⟨fun v h=>uQ s h v⟩) aj]
   match vs,ev,bX,eL with
   | [v1],[au2],.cons a _,_=>
    simp only [Option.some.injEq,Prod.mk.injEq] at k1;obtain ⟨rfl,rfl⟩:=k1;rw [p5] at e8;cases hc:h.cell? ⟨_,o+0,none⟩ with
    | none=>rw [hc] at e8;simp [q9] at e8
    | some w=>
     rw [hc] at e8;simp only [Bq,q9,Option.some.injEq,List.cons.injEq,and_true] at e8;subst e8;exact k.same S a
 ·cases aa
theorem am7(S:cD P bj ρ H.get H.ar h){main:Bool}{ah:Type}{Sy:Sys ah}{b:bn}{s:ah}{t:TypeId}{n:Nat}(aj:gq P t=some (some n)){x:Operand}{x':Value}(aa:cA call e H (.H8 n x)=some (v,H'))(h1:bw ρ (b5 e x) x'){uQ:ah->ab->Value->Prop}(k:fU P bj ρ H h v H' fun v h=>uQ s h v):
  @fa P main _ Sy b t x' s h ⟨uQ⟩:=by
 simp only [cA] at aa;split at aa
 ·rename_i c o he;rw [he] at h1;cases h1 with
  | ptr o al=>
   obtain ⟨vs,ev,k1,bX,eL,e8,y,A9⟩:=zA S al aa;rw [u7 (K:=⟨uQ⟩) (A:=⟨_,o,none⟩) A9,By (K:=⟨fun v h=>uQ s h v⟩) aj,e8];simp only [Option.some.injEq,Prod.mk.injEq] at k1;obtain ⟨rfl,rfl⟩:=k1;exact k.same S (.agg bX)
 ·cases aa
theorem apL(S:cD P bj ρ H.get H.ar h){t:TypeId}{n:Nat}(aj:cy P t=some n){x y:Operand}{x' c8:Value}(aa:cA call e H (.st n x y)=some (v,H'))(h1:bw ρ (b5 e x) x')(h2:bw ρ (b5 e y) c8)(k:fU P bj ρ H h v H' K):
  @au P _ (Instr.storeAt t x' c8) h ⟨fun _ h=>K undef h⟩:=by
 simp only [cA] at aa;split at aa
 ·rename_i c o he;rw [he] at h1;cases h1 with
  | ptr o al=>
   cases af:Nat.beq (ew (b5 e y)).length n with
   | false=>rw [af] at aa;cases aa
   | true=>
    rw [af,cond_true] at aa;obtain ⟨H1,h1,k1,bX,eL,e8⟩:=BR S al h2.cells aa;cases k1;rw [y9 (K:=⟨fun _ h=>K undef h⟩) aj];have ao:c8.cells.size=n:=by
     have:=h2.cells.length;rw [<- Array.length_toList,this];exact Nat.eq_of_beq_eq_true af
    refine ⟨by simp [ao],e8 _ (k _ _ _ bX bw.undef eL)⟩
 ·cases aa
theorem am8(S:cD P bj ρ H.get H.ar h){x:Operand}{x':Value}(aa:cA call e H (.GN x)=some (v,H'))(h1:bw ρ (b5 e x) x')(k:fU P bj ρ H h v H' K):
  @au P _ (xz x') h ⟨fun ar h=>∃bQ,ar=.value bQ/\K bQ h⟩:=by
 simp only [cA] at aa;split at aa
 ·rename_i he;cases aa;rw [he] at h1;cases h1 with
  | ptr o al=>exact ⟨_,rfl,k.same S (.ptr o al)⟩
 ·rename_i he;cases aa;rw [he] at h1;cases h1 with
  | func f a b=>exact ⟨_,rfl,k.same S (.func f a b)⟩
 ·cases aa
theorem X0(k:IntKind)(n:Int):wr k n=k.wrap n:=by
 have key:∀(k:IntKind) (m:Nat),m<128->k.wrap (.ofNat m)=.ofNat m:=fun k m hm=>by
  have e:(Int.ofNat m)=(m:Int):=rfl;rw [e];cases k<;>simp only [IntKind.wrap,IntKind.bits,IntKind.signed,Bool.true_and,Bool.false_and]<;>(try split)<;>simp_all<;>omega
 have i64:∀n:Int,-9223372036854775808<=n->n<9223372036854775808->IntKind.wrap .i64 n=n:=fun n h1 h2=>by
  simp only [IntKind.wrap,IntKind.bits,IntKind.signed,Bool.true_and];split<;>simp_all<;>omega
 have u64:∀n:Int,0<=n->n<18446744073709551616->IntKind.wrap .u64 n=n:=fun n h1 h2=>by
  simp only [IntKind.wrap,IntKind.bits,IntKind.signed,Bool.false_and];simp;omega
 unfold wr;have blt:∀a b:Nat,Nat.blt a b=true->a<b:=fun a b h=>by
  have:=Nat.le_of_ble_eq_true h;omega
 cases n with
 | ofNat m=>
  show cond (Nat.blt m 128) (Int.ofNat m) (match k with|.i64=>cond (Nat.blt m 9223372036854775808) (Int.ofNat m) (k.wrap (.ofNat m))|.u64=>cond (Nat.blt m 18446744073709551616) (Int.ofNat m) (k.wrap (.ofNat m))|_=>k.wrap (.ofNat m))=_;cases hm:Nat.blt m 128 with
  | true=>exact (key k m (blt _ _ hm)).symm
  | false=>
   rw [cond_false];cases k
   case i8=>rfl
   case i16=>rfl
   case i32=>rfl
   case u8=>rfl
   case u16=>rfl
   case u32=>rfl
   ·show cond (Nat.blt m 9223372036854775808) _ _=_;cases hb:Nat.blt m 9223372036854775808 with
    | true=>have:=blt _ _ hb;exact (i64 (m:Int) (by omega) (by omega)).symm
    | false=>rw [cond_false]
   ·show cond (Nat.blt m 18446744073709551616) _ _=_;cases hb:Nat.blt m 18446744073709551616 with
    | true=>have:=blt _ _ hb;exact (u64 (m:Int) (by omega) (by omega)).symm
    | false=>rw [cond_false]
 | negSucc m=>
  cases k
  case i8=>rfl
  case i16=>rfl
  case i32=>rfl
  case u8=>rfl
  case u16=>rfl
  case u32=>rfl
  case u64=>rfl
  show cond (Nat.blt m 9223372036854775808) _ _=_;cases hb:Nat.blt m 9223372036854775808 with
  | true=>
   have h0:=blt _ _ hb;have h1: -9223372036854775808<=Int.negSucc m:=by rw [Int.negSucc_eq];omega
   have h2:Int.negSucc m<9223372036854775808:=by rw [Int.negSucc_eq];omega
   rw [cond_true,i64 (Int.negSucc m) h1 h2]
  | false=>rw [cond_false]
theorem qb{k:IntKind}{n:Int}{f:Value->Option (Value×aL)}{r:Value×aL}(aa:qB k n f=some r):f (.int k (k.wrap n))=some r:=by
 unfold qB at aa;rw [akd,X0] at aa;exact aa
theorem nU{b:Bool}{f:Value->Option (Value×aL)}{r:Value×aL}(aa:okB b f=some r):f (.bool b)=some r:=by
 unfold okB at aa;cases b<;>exact aa
theorem MH(a b:Int):CY a b=decide (a<=b):=by
 cases a<;>cases b<;>simp only [CY]
 ·rename_i a b;rw [Bool.eq_iff_iff];simp only [decide_eq_true_eq];exact ⟨fun h=>Int.ofNat_le.2 (Nat.le_of_ble_eq_true h),fun h=>Nat.ble_eq_true_of_le (Int.ofNat_le.1 h)⟩
 ·symm;simp only [decide_eq_false_iff_not,Int.ofNat_eq_natCast,Int.negSucc_eq];omega
 ·symm;simp only [decide_eq_true_eq,Int.ofNat_eq_natCast,Int.negSucc_eq];omega
 ·rename_i a b;rw [Bool.eq_iff_iff];simp only [decide_eq_true_eq];simp only [Int.negSucc_eq];exact ⟨fun h=>by have:=Nat.le_of_ble_eq_true h;omega,fun h=>Nat.ble_eq_true_of_le (by omega)⟩
theorem MI(a b:Int):CZ a b=decide (a<b):=by
 unfold CZ;rw [MH];rw [Bool.eq_iff_iff];simp only [Bool.not_eq_true',decide_eq_false_iff_not,decide_eq_true_eq];omega
end
section
variable{P:Program}{bj:Nat}{ρ:bq}{H H':aL}{h:ab}{call:FuncId->List Value->aL->Option (Value×aL)}{e:cJ}{v:Value}{K:Value->ab->Prop}
theorem KD{j k:IntKind}(h:xh j k=true):j=k:=by cases j<;>cases k<;>first|rfl|cases h
theorem F0(a b:Int):AF a b=(a==b):=by
 rw [Bool.eq_iff_iff,beq_iff_eq];cases a<;>cases b<;>simp only [AF,dA.beq_iff,Int.ofNat_eq_natCast,Int.negSucc_eq,reduceCtorEq,false_iff,Bool.false_eq_true]<;>omega
theorem WU(a b:Bool):PV a b=(a==b):=by cases a<;>cases b<;>rfl
theorem Ur(k:IntKind)(a b:Nat)(h:a%2^k.bits=b%2^k.bits):k.wrap a=k.wrap b:=by
 have e:((a:Int)%(2^k.bits:Int))=((b:Int)%(2^k.bits:Int)):=by
  have h1:((2^k.bits:Int))=((2^k.bits:Nat):Int):=by simp
  rw [h1,<- Int.natCast_emod,<- Int.natCast_emod,h]
 unfold IntKind.wrap;rw [e]
theorem adu{op:BinOp}{t:TypeId}{x y:Operand}{k k':IntKind}{a b:Int}(Q:Unit->ab->Prop):bf P (eqGuard op t x y (.int k a) (.int k' b)) h Q=Q () h:=by
 unfold eqGuard;cases op<;>simp [bh,aV]
theorem adZ(S:cD P bj ρ H.get H.ar h){op:BinOp}{t:TypeId}{x y:Operand}{x' c8:Value}(aa:cA call e H (.bin op .int x y)=some (v,H'))(h1:bw ρ (b5 e x) x')(h2:bw ρ (b5 e y) c8)(k:fU P bj ρ H h v H' K):
  @au P _ (cr op t x y x' c8) h ⟨K⟩:=by
 simp only [cA,vv] at aa;split at aa
 ·rename_i kk a AG b jW hX;rw [jW] at h1;rw [hX] at h2;cases h1;cases h2;have fin:∀w:Value,bf P (binOp op t (.int kk a) (.int AG b)) h (fun v h=>K v h)=K w h->bw ρ v w->H'=H->@au P _ (cr op t x y (.int kk a) (.int AG b)) h ⟨K⟩:=fun w hw aI nh=>by
   subst nh;simp only [au,cr,aV,adu];rw [hw];exact k.same S aI
  split at aa
  ·split at aa
   ·rename_i a b;cases hb:Nat.ble b kk.bits with
    | false=>rw [hb] at aa;cases aa
    | true=>
     rw [hb,cond_true] at aa;have:=qb aa;cases this;refine fin _ ?_ (.int _ _) rfl;have hm:min b kk.bits=b:=Nat.min_eq_left (Nat.le_of_ble_eq_true hb);have ao:¬((b:Int)<0):=by omega
     simp only [binOp,Op.shift,Int.ofNat_eq_natCast,ao,if_false,Int.toNat_natCast,hm,bh];have e2:((a.mul (Nat.pow 2 b):Nat):Int)=(a:Int)*2^b:=by rw [show a.mul (Nat.pow 2 b)=a*2^b from rfl];simp
     rw [e2]
   ·cases aa
  ·split at aa
   ·rename_i a b;cases hb:Nat.ble b kk.bits with
    | false=>rw [hb] at aa;cases aa
    | true=>
     rw [hb,cond_true,jH] at aa;cases aa;refine fin _ ?_ (.int _ _) rfl;have hm:min b kk.bits=b:=Nat.min_eq_left (Nat.le_of_ble_eq_true hb);have ao:¬((b:Int)<0):=by omega
     simp only [binOp,Op.shift,Int.ofNat_eq_natCast,ao,if_false,Int.toNat_natCast,hm,bh];congr 2;have h2:((2:Int)^b)=((2^b:Nat):Int):=by simp
     rw [h2,Int.fdiv_eq_ediv_of_nonneg _ (Int.natCast_nonneg _)];exact (Int.natCast_ediv _ _).symm
   ·cases aa
  ·rename_i db dB;cases hk:xh kk AG with
   | false=>rw [hk] at aa;cases aa
   | true=>
    rw [hk,cond_true] at aa;have:=KD hk;subst this;split at aa
    ·have:=qb aa;cases this;exact fin _ (by simp [binOp,Op.intArith,bh]) (.int _ _) rfl
    ·have:=qb aa;cases this;exact fin _ (by simp [binOp,Op.intArith,bh]) (.int _ _) rfl
    ·have:=qb aa;cases this;exact fin _ (by simp [binOp,Op.intArith,bh]) (.int _ _) rfl
    ·have:=nU aa;cases this;exact fin _ (by rw [F0];simp [binOp,Op.intCmp,bh]) (.bool _) rfl
    ·have:=nU aa;cases this;exact fin _ (by rw [F0];simp [bne,binOp,Op.intCmp,bh]) (.bool _) rfl
    ·have:=nU aa;cases this;exact fin _ (by rw [MI];simp [binOp,Op.intCmp,bh]) (.bool _) rfl
    ·have:=nU aa;cases this;exact fin _ (by rw [MH];simp [binOp,Op.intCmp,bh]) (.bool _) rfl
    ·have:=nU aa;cases this;exact fin _ (by rw [MI];simp [binOp,Op.intCmp,bh]) (.bool _) rfl
    ·have:=nU aa;cases this;exact fin _ (by rw [MH];simp [binOp,Op.intCmp,bh]) (.bool _) rfl
    ·split at aa
     ·rename_i a b;cases hb:Nat.beq b 0 with
      | true=>rw [hb] at aa;cases aa
      | false=>
       rw [hb,cond_false,jH] at aa;cases aa;have h0:¬(b=0):=fun h0=>by subst h0;cases hb
       exact fin _ (by simp [binOp,Op.intDiv,bh,h0];rfl) (.int _ _) rfl
     ·cases aa
    ·split at aa
     ·rename_i a b;cases hb:Nat.beq b 0 with
      | true=>rw [hb] at aa;cases aa
      | false=>
       rw [hb,cond_false] at aa;have:=qb aa;cases this;have h0:¬(b=0):=fun h0=>by subst h0;cases hb
       exact fin _ (by simp [binOp,Op.intDiv,bh,h0];rfl) (.int _ _) rfl
     ·cases aa
    ·split at aa
     ·rename_i a b;have:=qb aa;cases this;refine fin _ ?_ (.int _ _) rfl;simp only [binOp,Op.intBits,bh,ne_eq,not_true_eq_false,if_false];congr 2;refine Ur kk _ _ ?_;simp [BitVec.ofInt_natCast];simp [Nat.and_mod_two_pow]
     ·cases aa
    ·split at aa
     ·rename_i a b;have:=qb aa;cases this;refine fin _ ?_ (.int _ _) rfl;simp only [binOp,Op.intBits,bh,ne_eq,not_true_eq_false,if_false];congr 2;refine Ur kk _ _ ?_;simp [BitVec.ofInt_natCast];simp [Nat.or_mod_two_pow]
     ·cases aa
    ·cases aa
 ·cases aa
theorem yX{t:TypeId}{x y:Value}{Q:Bool->ab->Prop}:bf P (Op.equal t x y) h Q=bf P (Op.equalIn (9999+1) t x y) h Q:=rfl
theorem S6{t:TypeId}(aj:P.underlying t=some .bool){a b:Bool}{Q:Bool->ab->Prop}:bf P (Op.equal t (.bool a) (.bool b)) h Q=Q (a==b) h:=by
 rw [yX];generalize 9999=d;rw [Op.equalIn];simp only [aV,df,aj];rfl
theorem SR{t el:TypeId}(aj:P.underlying t=some (.slice el)){a:Option Addr}{n c n' b2:Nat}{Q:Bool->ab->Prop}:bf P (Op.equal t (.slice a n c) (.slice none n' b2)) h Q=Q a.isNone h:=by
 rw [yX];generalize 9999=d;rw [Op.equalIn];simp only [aV,df,aj];cases a<;>rfl
theorem adv(S:cD P bj ρ H.get H.ar h){op:BinOp}{t:TypeId}(aj:P.underlying t=some .bool){x y:Operand}{x' c8:Value}(aa:cA call e H (.bin op .bool x y)=some (v,H'))(h1:bw ρ (b5 e x) x')(h2:bw ρ (b5 e y) c8)(k:fU P bj ρ H h v H' K):
  @au P _ (cr op t x y x' c8) h ⟨K⟩:=by
 simp only [cA,vv] at aa;split at aa
 ·rename_i a b jW hX;rw [jW] at h1;rw [hX] at h2;cases h1;cases h2;split at aa
  ·have:=nU aa;cases this;simp only [au,cr,aV,eqGuard,binOp];simp only [bh,aV,WU,S6 aj] at k ⊢;simp [bh] at k ⊢;exact k.same S (.bool _)
  ·have:=nU aa;cases this;simp only [au,cr,aV,eqGuard,binOp];simp only [bh,aV,WU,S6 aj] at k ⊢;simp [bh] at k ⊢;exact k.same S (.bool _)
  ·cases aa
 ·cases aa
theorem EY:∀(a b:List UInt8),zR a b=(a==b)
 | [],[]=>rfl
 | [],_::_=>rfl
 | _::_,[]=>rfl
 | a::l,b::m=>by
  simp only [zR,List.cons_beq_cons];rw [EY l m];have:Nat.beq a.toNat b.toNat=(a==b):=by
   rw [Bool.eq_iff_iff,dA.beq_iff,beq_iff_eq];exact ⟨fun h=>UInt8.toNat_inj.1 h,fun h=>by rw [h]⟩
  rw [this];cases (a==b)<;>rfl
theorem En(a:List UInt8):(⟨⟨a⟩⟩:ByteArray).toList=a:=by
 have loop:∀(n i:Nat) (r:List UInt8),a.length- i=n->i<=a.length->ByteArray.toList.loop ⟨⟨a⟩⟩ i r=r.reverse++a.drop i:=by
  intro n
  induction n with
  | zero=>
   intro i r ao hi;unfold ByteArray.toList.loop;have:¬i<(⟨⟨a⟩⟩:ByteArray).size:=by show ¬i<a.length;omega
   rw [if_neg this,List.drop_of_length_le (by omega),List.append_nil]
  | succ n aN=>
   intro i r ao hi;unfold ByteArray.toList.loop;have af:i<a.length:=by omega
   have:i<(⟨⟨a⟩⟩:ByteArray).size:=af;rw [if_pos this,aN (i+1) _ (by omega) af];have aG:(⟨⟨a⟩⟩:ByteArray).get! i=a[i]:=by
    simp [ByteArray.get!,af]
   rw [aG,List.drop_eq_getElem_cons af];simp
 unfold ByteArray.toList;rw [loop a.length 0 [] (by omega) (Nat.zero_le _)];simp
theorem ac6(S:cD P bj ρ H.get H.ar h){op:BinOp}{t:TypeId}{x y:Operand}{x' c8:Value}(aa:cA call e H (.bin op .string x y)=some (v,H'))(h1:bw ρ (b5 e x) x')(h2:bw ρ (b5 e y) c8)(k:fU P bj ρ H h v H' K):
  @au P _ (cr op t x y x' c8) h ⟨K⟩:=by
 simp only [cA,vv] at aa;split at aa
 ·rename_i a b jW hX;rw [jW] at h1;rw [hX] at h2;cases h1;cases h2;split at aa
  ·have:=nU aa;cases this;simp only [au,cr,aV,eqGuard,binOp,Op.stringOp,En];simp [bh,aV,EY] at k ⊢;exact k.same S (.bool _)
  ·have:=nU aa;cases this;simp only [au,cr,aV,eqGuard,binOp,Op.stringOp,En];simp [bh,aV,EY] at k ⊢;exact k.same S (.bool _)
  ·cases aa
 ·cases aa
theorem adg(S:cD P bj ρ H.get H.ar h){op:BinOp}{t el:TypeId}(aj:P.underlying t=some (.slice el)){x y:Operand}{x' c8:Value}(aa:cA call e H (.bin op .slice x y)=some (v,H'))(h1:bw ρ (b5 e x) x')(h2:bw ρ (b5 e y) c8)(k:fU P bj ρ H h v H' K):
  @au P _ (cr op t x y x' c8) h ⟨K⟩:=by
 simp only [cA,vv] at aa;split at aa
 ·rename_i a n c n' b2 jW hX;rw [jW] at h1;rw [hX] at h2;have key:∀(fh:Option Addr) (m d:Nat),x'=.slice fh m d->fh.isNone=a.isNone->c8=.slice none n' b2->@au P _ (cr op t x y x' c8) h ⟨K⟩:=by
   rintro fh m d rfl ao rfl;split at aa
   ·have:=nU aa;cases this;simp only [au,cr,aV,eqGuard,binOp];simp only [bh,aV,SR aj];simp [bh];rw [<- ao] at k;first|exact k.same S (.bool _)|(simp at k;exact k.same S (.bool _))
   ·have:=nU aa;cases this;simp only [au,cr,aV,eqGuard,binOp];simp only [bh,aV,SR aj];simp [bh];rw [<- ao] at k;first|exact k.same S (.bool _)|(simp at k;exact k.same S (.bool _))
   ·cases aa
  cases h2;cases h1 with
  | vS n c=>exact key none n c rfl rfl rfl
  | sl o n m al=>exact key _ n _ rfl rfl rfl
 ·cases aa
theorem apM(S:cD P bj ρ H.get H.ar h){op:UnOp}{x:Operand}{x':Value}(aa:cA call e H (.un op x)=some (v,H'))(h1:bw ρ (b5 e x) x')(k:fU P bj ρ H h v H' K):
  @au P _ (Op.unary op x') h ⟨K⟩:=by
 simp only [cA] at aa;split at aa
 ·rename_i he;cases aa;rw [he] at h1;cases h1;exact k.same S (.bool _)
 ·rename_i he;cases aa;rw [he] at h1;cases h1;exact k.same S (.bool _)
 ·rename_i kk n he;have:=qb aa;cases this;rw [he] at h1;cases h1;simp only [au,Op.unary,Op.intArith,bh];exact k.same S (.int _ _)
 ·cases aa
theorem akg(S:cD P bj ρ H.get H.ar h){s t:TypeId}{j kk:IntKind}(hs:P.underlying s=some (.int j))(aj:P.underlying t=some (.int kk)){x:Operand}{x':Value}(aa:cA call e H (.conv kk x)=some (v,H'))(h1:bw ρ (b5 e x) x')(k:fU P bj ρ H h v H' K):
  @au P _ (convert s t x') h ⟨K⟩:=by
 simp only [cA] at aa;split at aa
 ·rename_i k0 n he;have:=qb aa;cases this;rw [he] at h1;cases h1;simp only [au,convert,aV,df,hs,aj,Conv.intToInt,bh];exact k.same S (.int _ _)
 ·cases aa
theorem adw{kk:IntKind}{x:Operand}{x':Value}(aa:cA call e H (.conv kk x)=some (v,H'))(h1:bw ρ (b5 e x) x'):∃k n,x'=.int k n:=by
 simp only [cA] at aa;split at aa
 ·rename_i k0 n he;rw [he] at h1;cases h1;exact ⟨_,_,rfl⟩
 ·cases aa
theorem am9(S:cD P bj ρ H.get H.ar h){t:TypeId}{d:TypeDesc}(aj:P.underlying t=some d)(hd:∀ms,d≠.interface ms){x:Operand}{x':Value}(aa:cA call e H (.H9 t x)=some (v,H'))(h1:bw ρ (b5 e x) x')(k:fU P bj ρ H h v H' K):
  @au P _ (Instr.makeInterface t x') h ⟨K⟩:=by
 simp only [cA,Option.some.injEq,Prod.mk.injEq] at aa;obtain ⟨rfl,rfl⟩:=aa;simp only [au,Instr.makeInterface,aV,df,aj];have:=k.same S (.iface t h1);cases d<;>first|exact this|exact absurd rfl (hd _)
theorem ahg(S:cD P bj ρ H.get H.ar h)(cU:bj<=H.ar){t:TypeId}(aa:cA call e H .mkMap=some (v,H'))(k:fU P bj ρ H h v H' K):
  @au P _ (Instr.makeMap t none) h ⟨K⟩:=by
 simp only [cA,aL.qZ,Option.some.injEq,Prod.mk.injEq] at aa;obtain ⟨rfl,rfl⟩:=aa;simp only [au,Instr.makeMap,aV,qX,bh];intro b hb;obtain ⟨s1,s2⟩:=Fh S (kk:=0) (x:=.mp true [] 0) (o:=⟨.map #[] 0,true⟩) cU hb ⟨_,true,rfl,fun _=>rfl,trivial⟩;exact k _ _ _ s1 (.map bq.mL) s2
theorem ana(S:cD P bj ρ H.get H.ar h){x:Operand}{i:Nat}{x':Value}(aa:cA call e H (.ext x i)=some (v,H'))(h1:bw ρ (b5 e x) x')(k:fU P bj ρ H h v H' K):
  @au P _ (Instr.extract x' i) h ⟨K⟩:=by
 simp only [cA] at aa;split at aa
 ·rename_i l he;rw [he] at h1;rw [sb] at aa;cases h1 with
  | tuple af=>
   split at aa
   ·rename_i w hw;cases aa;obtain ⟨w',qy,aI⟩:=af.get hw;simp only [au,Instr.extract,List.getElem?_toArray,qy,bh];exact k.same S aI
   ·cases aa
 ·cases aa
theorem akh(S:cD P bj ρ H.get H.ar h){t ty el:TypeId}(aj:P.underlying t=some (.slice el)){x:Operand}{x':Value}(aa:cA call e H (.Hx x)=some (v,H'))(h1:bw ρ (b5 e x) x')(k:fU P bj ρ H h v H' K):
  @au P _ (Builtin.len_ #[t] ty #[x']) h ⟨K⟩:=by
 simp only [cA] at aa;split at aa
 ·rename_i a n c he;rw [jH] at aa;cases aa;rw [he] at h1;cases h1 with
  | vS n c=>rw [u3 (K:=⟨K⟩) aj];exact k.same S (.int _ _)
  | sl o n m al=>rw [u3 (K:=⟨K⟩) aj];exact k.same S (.int _ _)
 ·cases aa
theorem aki(S:cD P bj ρ H.get H.ar h){t ty:TypeId}(aj:P.underlying t=some .string){x:Operand}{x':Value}(aa:cA call e H (.Hy x)=some (v,H'))(h1:bw ρ (b5 e x) x')(k:fU P bj ρ H h v H' K):
  @au P _ (Builtin.len_ #[t] ty #[x']) h ⟨K⟩:=by
 simp only [cA] at aa;split at aa
 ·rename_i s he;rw [jH] at aa;cases aa;rw [he] at h1;cases h1;rw [Sx (K:=⟨K⟩) aj];exact k.same S (.int _ _)
 ·cases aa
end
section
variable{P:Program}{bj:Nat}{ρ:bq}{H H':aL}{h:ab}{call:FuncId->List Value->aL->Option (Value×aL)}{e:cJ}{v:Value}{K:Value->ab->Prop}
theorem adh(off:Nat):∀(vs:List Value) (j:Nat) (l:List Value),off+j+vs.length<=l.length->
  (vs.zipIdx j).foldl (fun (cs:Array Value) (c,i)=>cs.setIfInBounds (off+i) c) ⟨l⟩=⟨hv (off+j) vs l⟩:=by
 intro vs
 induction vs with
 | nil=>intro j l _;simp [yW]
 | cons v vs aN=>
  intro j l af;simp only [List.length_cons] at af;rw [List.zipIdx_cons,List.foldl_cons];have:(⟨l⟩:Array Value).setIfInBounds (off+j) v=⟨l.set (off+j) v⟩:=by simp
  simp only [this];rw [aN (j+1) _ (by simp;omega),show off+(j+1)=(off+j)+1 by omega,S5 (by omega)]
theorem ahh(off:Nat)(vs:Array Value)(l:List Value)(af:off+vs.size<=l.length):vs.zipIdx.foldl (fun (cs:Array Value) (c,i)=>cs.setIfInBounds (off+i) c) ⟨l⟩=⟨hv off vs.toList l⟩:=by
 have:=adh off vs.toList 0 l (by simpa using af);rw [Nat.add_zero] at this;rw [<- this,<- Array.foldl_toList,Array.toList_zipIdx]
def BS(place:Nat->Option (Nat×Nat)):List (Nat×Operand)->List (Nat×Nat×Operand)->Prop
 | [],[]=>True
 | (i,x)::bF,(o,n,y)::l=>place i=some (o,n)/\x=y/\1<=n/\BS place bF l
 | _,_=>False
theorem KE{α:Type}{e':Operand->Value}{place:Nat->Option (Nat×Nat)}{k:List Value->Option α}{r:α}:∀(bF:List (Nat×Operand)) (l:List (Nat×Nat×Operand)) (cs kU:List Value),
  BS place bF l->(∀x∈l.map (·.2.2),bw ρ (b5 e x) (e' x))->cV ρ cs kU->xi e cs l k=some r->
  ∃c b2,k c=some r/\cV ρ c b2/\c.length=cs.length/\Instr.fill place ⟨kU⟩ (bF.map fun p=>(p.1,e' p.2))=some ⟨b2⟩:=by
 intro bF
 induction bF with
 | nil=>
  intro l cs kU aP _ aI aa;cases l with
  | nil=>exact ⟨cs,kU,aa,aI,rfl,rfl⟩
  | cons _ _=>exact aP.elim
 | cons p bF aN=>
  intro l cs kU aP he aI aa;obtain ⟨i,x⟩:=p
  match l,aP with
  | (o,n,y)::l,⟨h1,h2,xD,h3⟩=>
   subst h2;have vU:=he x (by simp);simp only [xi] at aa;cases af:Nat.beq (ew (b5 e x)).length n with
   | false=>rw [af] at aa;cases aa
   | true=>
    rw [af,cond_true] at aa;have ao:=Nat.eq_of_beq_eq_true af;obtain ⟨hb,aa⟩:=zk _ _ _ _ _ aa;have hc:=vU.cells;have kV:=hc.length;have eJ:(e' x).cells.size=n:=by rw [<- Array.length_toList,kV,ao]
    have hb:o+n<=cs.length:=by
     rcases hb with hb|hb
     ·rw [hb] at ao;simp at ao;omega
     ·rw [ao] at hb;exact hb
    obtain ⟨c,b2,k1,bX,e8,eL⟩:=aN l _ (hv o (e' x).cells.toList kU) h3 (fun z aH=>he z (by simp at aH ⊢;exact .inr aH)) (aI.hv hc o) aa;refine ⟨c,b2,k1,bX,?_,?_⟩
    ·rw [e8,Sz (by rw [ao];exact hb)]
    ·have dW:o+(e' x).cells.size<=kU.length:=by rw [eJ,aI.length];exact hb
     have e1:=ahh o _ kU dW;simp only [List.map_cons,Instr.fill,h1];rw [if_neg (by rw [eJ];simp;rw [aI.length];exact hb)];rw [e1];exact eL
theorem akj(fs:List Field)(cW:(fs.all fun f=>(cy P f.type).isSome)=true)(Q:List (Nat×Nat)->ab->Prop):
  bf P (fs.mapM (fun f=>do pure (f.offset,<- sizeOf f.type)):Sem (List (Nat×Nat))) h Q=Q (fs.map fun f=>(f.offset,(cy P f.type).getD 0)) h:=by
 induction fs generalizing Q with
 | nil=>simp [bh]
 | cons f fs aN=>
  simp only [List.all_cons,Bool.and_eq_true] at cW;obtain ⟨n,ao⟩:=Option.isSome_iff_exists.1 cW.1;simp only [List.mapM_cons,aV,gL,ao,bh,aN cW.2,List.map_cons,Option.getD_some]
theorem SA{t:TypeId}{fs:Array Field}(aj:P.underlying t=some (.struct fs))(place:Nat->Option (Nat×Nat))(aK:∀i f n,fs[i]? =some f->cy P f.type=some n->place i=some (f.offset,n)):∀(bF:List (Nat×Operand)) (l:List (Nat×Nat×Operand)),partsOf P t bF=some l->BS place bF l
 | [],l,af=>by simp [partsOf] at af;subst af;trivial
 | (i,x)::bF,l,af=>by
  simp only [partsOf] at af;split at af
  ·rename_i o n r h1 h2;cases af;refine ⟨?_,rfl,by omega,SA aj place aK bF r h2⟩;simp only [placesOf,aj] at h1;split at h1
   ·rename_i f aP;split at h1
    ·rename_i m hm;cases h1;exact aK i f _ aP hm
    ·cases h1
   ·cases h1
  ·cases af
theorem SG{t el:TypeId}{m:Nat}(aj:P.underlying t=some (.array m el)){bo:Nat}(hs:cy P el=some bo):∀(bF:List (Nat×Operand)) (l:List (Nat×Nat×Operand)),partsOf P t bF=some l->BS (fun i=>some (i*bo,bo)) bF l
 | [],l,af=>by simp [partsOf] at af;subst af;trivial
 | (i,x)::bF,l,af=>by
  simp only [partsOf] at af;split at af
  ·rename_i o n r h1 h2;cases af;refine ⟨?_,rfl,by omega,SG aj hs bF r h2⟩;simp only [placesOf,aj,hs] at h1;exact h1
  ·cases af
theorem S7{bo:Nat}(hs:1<=bo):∀(bF:List (Nat×Operand)),BS (fun i=>some (i*bo,bo)) bF (rowOf bo bF)
 | []=>trivial
 | (i,x)::bF=>⟨rfl,rfl,hs,S7 hs bF⟩
theorem ahi(S:cD P bj ρ H.get H.ar h){t:TypeId}{bF:Array (Nat×Operand)}{e':Operand->Value}{z:Value}{l:List (Nat×Nat×Operand)}(aH:zeroOf P t=some z)(af:partsOf P t bF.toList=some l)(cW:Fg P t=true)(aK:lL (ew z)=true)
  (aa:cA call e H (.build (ew z) l)=some (v,H')) (he:∀x∈l.map (·.2.2),bw ρ (b5 e x) (e' x)) (k:fU P bj ρ H h v H' K):
  @au P _ (Instr.build t ((bF.toList.map fun p=>(p.1,e' p.2)).toArray)) h ⟨K⟩:=by
 simp only [cA] at aa;have jy:cV ρ (ew z) z.cells.toList:=by rw [<- tn];exact wP aK
 simp only [au,Instr.build,aV,iD,aH,df];unfold Fg at cW;split at cW
 ·rename_i fs aj;simp only [aj,aV,Array.mapM_eq_mapM_toList,Bx];rw [akj fs.toList cW];obtain ⟨c,b2,k1,bX,_,eL⟩:=KE (e':=e') bF.toList l (ew z) z.cells.toList (SA aj (fun i=>((fs.toList.map fun f=>(f.offset,(cy P f.type).getD 0)).toArray)[i]?) (fun i f n aP ao=>by simp [aP,ao]) _ _ af) he jy aa;cases k1;have pI:Instr.fill (fun i=>((fs.toList.map fun f=>(f.offset,(cy P f.type).getD 0)).toArray)[i]?) z.cells (bF.toList.map fun p=>(p.1,e' p.2))=some ⟨b2⟩:=eL;rw [pI];simp only [bh];exact k.same S (.agg bX)
 ·rename_i m el aj;obtain ⟨bo,hs⟩:=Option.isSome_iff_exists.1 cW;simp only [aj,aV,gL,hs];obtain ⟨c,b2,k1,bX,_,eL⟩:=KE (e':=e') bF.toList l (ew z) z.cells.toList (SG aj hs _ _ af) he jy aa;cases k1;have pI:Instr.fill (fun i=>some (i*bo,bo)) z.cells (bF.toList.map fun p=>(p.1,e' p.2))=some ⟨b2⟩:=eL;rw [pI];simp only [bh];exact k.same S (.agg bX)
 ·cases cW
theorem EZ{z j4:List Value}(aH:cV ρ z j4):∀n,cV ρ (ml z n) (ml j4 n)
 | 0=>.nil
 | n+1=>aH.append (EZ aH n)
theorem Et(z:List Value):∀n,(ml z n).length=n*z.length
 | 0=>by simp [ml]
 | n+1=>by simp [ml,Et z n,Nat.succ_mul,Nat.add_comm]
theorem Us(z:List Value):∀(n i:Nat),i<n*z.length->(ml z n)[i]? =z[i%z.length]?
 | 0,i,hi=>by simp at hi
 | n+1,i,hi=>by
  have aH:0<z.length:=by
   rcases Nat.eq_zero_or_pos z.length with h0|h0
   ·rw [h0] at hi;simp at hi
   ·exact h0
  simp only [ml];by_cases bY:i<z.length
  ·rw [List.getElem?_append_left bY,Nat.mod_eq_of_lt bY]
  ·have e1:i%z.length=(i- z.length)%z.length:=Nat.mod_eq_sub_mod (by omega);have e2:(n+1)*z.length=n*z.length+z.length:=Nat.succ_mul n _;rw [List.getElem?_append_right (by omega),Us z n (i- z.length) (by omega),e1]
theorem K6{z:Array Value}{n m:Nat}(hm:z.size=m)(h1:1<=m):(Array.range (n*m)).map (fun i=>z[i%z.size]!)=⟨ml z.toList n⟩:=by
 apply Array.ext_getElem?;intro i;simp only [Array.getElem?_map,List.getElem?_toArray];by_cases hi:i<n*m
 ·rw [Array.getElem?_range,if_pos hi];rw [Us z.toList n i (by simpa [hm] using hi)];have:i%z.size<z.size:=Nat.mod_lt _ (by omega);simp [this]
 ·rw [Array.getElem?_range,if_neg hi,List.getElem?_eq_none]
  ·rfl
  ·rw [Et];simp [hm];omega
theorem ac7(S:cD P bj ρ H.get H.ar h)(cU:bj<=H.ar){t el n m:Nat}{bF:Array (Nat×Operand)}{e':Operand->Value}{z:Value}(aj:P.underlying t=some (.slice el))(aH:zeroOf P el=some z)(hs:cy P el=some m)
  (aK:(lL (ew z)&&Nat.beq (ew z).length m&&Nat.ble 1 m&&Nat.ble (n*m) 10000)=true) (aa:cA call e H (.buildSlice el m n (ew z) (rowOf m bF.toList))=some (v,H')) (he:∀x∈(rowOf m bF.toList).map (·.2.2),bw ρ (b5 e x) (e' x)) (k:fU P bj ρ H h v H' K):
  @au P _ (Instr.buildSlice t n ((bF.toList.map fun p=>(p.1,e' p.2)).toArray)) h ⟨K⟩:=by
 simp only [Bool.and_eq_true] at aK;obtain ⟨⟨⟨fV,p2⟩,p3⟩,p4⟩:=aK;have hm:=Nat.eq_of_beq_eq_true p2;have h1:=Nat.le_of_ble_eq_true p3;have h4:=Nat.le_of_ble_eq_true p4;have ks:z.cells.size=m:=by rw [<- Array.length_toList,<- tn];exact hm
 have jy:cV ρ (ew z) z.cells.toList:=by rw [<- tn];exact wP fV
 simp only [cA] at aa;obtain ⟨c,b2,k1,bX,_,eL⟩:=KE (e':=e') bF.toList _ _ _ (S7 h1 _) he (EZ jy n) aa;simp only [aL.qZ,Option.some.injEq,Prod.mk.injEq] at k1;obtain ⟨rfl,rfl⟩:=k1;simp only [au,Instr.buildSlice,aV,df,aj,gL,hs];rw [if_neg (by omega)];have fin:bf P (newRow el ⟨b2⟩) h (fun a h=>K (.slice (some a) n n) h):=by
  simp only [newRow,aV,qX,bh];intro b hb;obtain ⟨s1,s2⟩:=J7 S cU (t:=el) hb bX;have gd:jv 0 n=n:=by
   have:lK n=false:=by
    unfold lK;cases hb:Nat.ble 2305843009213693952 n with
    | false=>rfl
    | true=>
     have:=Nat.le_of_ble_eq_true hb;have:n<=n*m:=Nat.le_mul_of_pos_right n h1;omega
   simp [jv,this]
  have iK:=bw.sl (ρ:=ρ.ext H.ar b 0) 0 n n bq.mL;rw [gd] at iK;exact k _ _ _ s1 iK s2
 by_cases h0:n*m=0
 ·have ao:n=0:=by rcases Nat.mul_eq_zero.1 h0 with h|h<;>omega
  have Pa:(Array.range (n*m)).map (fun i=>(#[]:Array Value)[i%(#[]:Array Value).size]!)=⟨ml z.cells.toList n⟩:=by
   subst ao;simp [ml]
  rw [if_pos h0];simp only [aV,bh];rw [Pa,eL];simp only [aV,bh];exact fin
 ·rw [if_neg h0];simp only [aV,iD,aH,bh];rw [K6 ks h1,eL];simp only [aV,bh];exact fin
end
section
variable{P:Program}{bj:Nat}{ρ:bq}{H H':aL}{h:ab}{call:FuncId->List Value->aL->Option (Value×aL)}{e:cJ}{v:Value}{K:Value->ab->Prop}
theorem anb(S:cD P bj ρ H.get H.ar h){t m i:Nat}{fs:Array Field}{f:Field}(aj:P.underlying t=some (.struct fs))(aP:fs[i]? =some f)(hs:cy P f.type=some (m+1)){x:Operand}{x':Value}(aa:cA call e H (.Ib f.offset x)=some (v,H'))(h1:bw ρ (b5 e x) x')(k:fU P bj ρ H h v H' K):
  @au P _ (Instr.fieldAt t x' i) h ⟨K⟩:=by
 simp only [cA] at aa;split at aa
 ·rename_i c o he;rw [he] at h1;rw [jH] at aa;cases aa;cases h1 with
  | ptr o al=>
   rw [nq (K:=⟨K⟩) aj aP rfl hs,k5];exact k.same S (.ptr _ al)
 ·cases aa
theorem sc{a b:Nat}(h:Nat.blt a b=true):a<b:=by have:=Nat.le_of_ble_eq_true h;omega
theorem anc(S:cD P bj ρ H.get H.ar h){t el bo:Nat}(aj:P.underlying t=some (.slice el))(hs:cy P el=some bo){x y:Operand}{x' c8:Value}(aa:cA call e H (.idx bo x y)=some (v,H'))(h1:bw ρ (b5 e x) x')(h2:bw ρ (b5 e y) c8)(k:fU P bj ρ H h v H' K):
  @au P _ (Instr.indexAt t x' c8) h ⟨K⟩:=by
 simp only [cA] at aa;split at aa
 ·rename_i c o n dS kk i jW hX;rw [jW] at h1;rw [hX] at h2;cases hb:Nat.blt i n with
  | false=>rw [hb] at aa;cases aa
  | true=>
   rw [hb,cond_true,jH] at aa;cases aa;cases h2;cases h1 with
   | sl o n m al=>
    rw [El (K:=⟨K⟩) aj hs];have:=sc hb;refine ⟨?_,?_⟩
    ·simp only [Int.ofNat_eq_natCast,Bool.and_eq_true,decide_eq_true_eq];omega
    ·simp only [Int.ofNat_eq_natCast,Int.toNat_natCast];exact k.same S (.ptr _ al)
 ·cases aa
theorem akk(S:cD P bj ρ H.get H.ar h){t el bo n:Nat}(aj:P.underlying t=some (.array n el))(hs:cy P el=some bo){x y:Operand}{x' c8:Value}(aa:cA call e H (.Hw n bo x y)=some (v,H'))(h1:bw ρ (b5 e x) x')(h2:bw ρ (b5 e y) c8)(k:fU P bj ρ H h v H' K):
  @au P _ (Instr.indexAt t x' c8) h ⟨K⟩:=by
 simp only [cA] at aa;split at aa
 ·rename_i c o kk i jW hX;rw [jW] at h1;rw [hX] at h2;cases hb:Nat.blt i n with
  | false=>rw [hb] at aa;cases aa
  | true=>
   rw [hb,cond_true,jH] at aa;cases aa;cases h2;cases h1 with
   | ptr o al=>
    have:=sc hb;have hi:(0:Int)<=(i:Int)/\(i:Int)<(n:Int):=⟨by omega,by omega⟩;simp only [au,Instr.indexAt,asIntOf,Instr.sureAddr,aV,bh,df,aj,Ky,gL,hs,k5,Int.ofNat_eq_natCast,hi,and_self,if_true,Int.toNat_natCast];exact k.same S (.ptr _ al)
 ·cases aa
theorem Bt{t:TypeId}{cs:List Value}{o:Nat}(Q:Value->ab->Prop)(A:Option Nat)(aA:gq P t=some A):
  bf P (part t ⟨cs⟩ o) h Q=match A with|some n=>Q (.agg ⟨(cs.drop o).take n⟩) h|none=>match cs[o]? with|some v=>Q v h|none=>False:=by
 simp only [part,aV,S4];unfold gq at aA;cases hu:P.underlying t with
 | none=>rw [hu] at aA;cases aA
 | some d=>
  rw [hu] at aA;cases d<;>simp only at aA ⊢
  case array n el=>
   split at aA
   ·rename_i i hi;cases aA;simp only [if_true,aV,gL,cy,hi,Option.map_some,bh];simp
   ·cases aA
  case struct fs=>
   split at aA
   ·rename_i i hi;cases aA;simp only [if_true,aV,gL,cy,hi,Option.map_some,bh];simp
   ·cases aA
  all_goals
   cases aA;simp only [Bool.false_eq_true,if_false,List.getElem?_toArray];cases cs[o]? <;>rfl
theorem WV(S:cD P bj ρ H.get H.ar h){t el bo n:Nat}{ag:Bool}(aj:P.underlying t=some (.array n el))(hs:cy P el=some bo)(aA:gq P el=some (if ag then some bo else none)){x y:Operand}{x' c8:Value}(aa:cA call e H (.CX n bo ag x y)=some (v,H'))(h1:bw ρ (b5 e x) x')(h2:bw ρ (b5 e y) c8)(k:fU P bj ρ H h v H' K):
  @au P _ (Instr.index t x' c8) h ⟨K⟩:=by
 simp only [cA] at aa;split at aa
 ·rename_i cs kk i jW hX;rw [jW] at h1;rw [hX] at h2;cases hb:Nat.blt i n with
  | false=>rw [hb] at aa;cases aa
  | true=>
   rw [hb,cond_true] at aa;cases h2;cases h1 with
   | agg af=>
    have:=sc hb;have hi:(0:Int)<=(i:Int)/\(i:Int)<(n:Int):=⟨by omega,by omega⟩;simp only [au,Instr.index,asIntOf,aV,bh,df,aj,Int.ofNat_eq_natCast,hi,and_self,if_true,gL,hs,Int.toNat_natCast];rw [Bt _ _ aA];unfold Ok at aa;cases ag with
    | true=>
     simp only at aa ⊢;rw [wS] at aa;obtain ⟨h3,h4⟩:=za _ _ _ _ aa;cases h4;exact k.same S (.agg ((af.drop (i*bo)).take bo))
    | false=>
     dsimp only at aa;rw [sb] at aa;split at aa
     ·rename_i w hw;cases aa;obtain ⟨w',qy,aI⟩:=af.get hw;simp only [Bool.false_eq_true,if_false,qy];exact k.same S aI
     ·cases aa
 ·cases aa
theorem ane(S:cD P bj ρ H.get H.ar h){t:Nat}(aj:P.underlying t=some .string){x y:Operand}{x' c8:Value}(aa:cA call e H (.Ic x y)=some (v,H'))(h1:bw ρ (b5 e x) x')(h2:bw ρ (b5 e y) c8)(k:fU P bj ρ H h v H' K):
  @au P _ (Instr.index t x' c8) h ⟨K⟩:=by
 simp only [cA] at aa;split at aa
 ·rename_i s kk i jW hX;rw [jW] at h1;rw [hX] at h2;rw [sb] at aa;split at aa
  ·rename_i w hw;rw [jH] at aa;cases aa;cases h2;cases h1;have hi:(0:Int)<=(i:Int):=by omega
   have aG:(⟨⟨s⟩⟩:ByteArray)[i]? =some w:=by
    have af:i<s.length:=by
     rcases Nat.lt_or_ge i s.length with h|h
     ·exact h
     ·rw [List.getElem?_eq_none h] at hw;cases hw
    rw [List.getElem?_eq_getElem af] at hw;have:i<(⟨⟨s⟩⟩:ByteArray).size:=af;rw [getElem?_pos (⟨⟨s⟩⟩:ByteArray) i this];exact hw
   simp only [au,Instr.index,asIntOf,aV,bh,df,aj,Int.ofNat_eq_natCast,hi,if_true,Int.toNat_natCast,aG];exact k.same S (.int _ _)
  ·cases aa
 ·cases aa
theorem akl(S:cD P bj ρ H.get H.ar h){dN:Array TypeId}{ty:TypeId}{x y:Operand}{x' c8:Value}(aa:cA call e H (.max2 x y)=some (v,H'))(h1:bw ρ (b5 e x) x')(h2:bw ρ (b5 e y) c8)(k:fU P bj ρ H h v H' K):
  @au P _ (Builtin.max_ dN ty #[x',c8]) h ⟨K⟩:=by
 simp only [cA] at aa;split at aa
 ·rename_i kk a AG b jW hX;rw [jW] at h1;rw [hX] at h2;cases h1;cases h2;simp only [au,Builtin.max_,List.foldlM_cons,List.foldlM_nil,Builtin.max2,aV,bh];rw [MI] at aa;by_cases bY:a<b
  ·simp only [bY,decide_true,cond_true] at aa;cases aa;have:b>a:=bY;simp only [this,if_true];exact k.same S (.int _ _)
  ·simp only [bY,decide_false,cond_false] at aa;cases aa;have:¬b>a:=bY;simp only [this,if_false];exact k.same S (.int _ _)
 ·cases aa
def ob(ρ:bq)(e:cJ)(e':Operand->Value):Option Operand->Prop
 | none=>True
 | some x=>bw ρ (b5 e x) (e' x)
theorem qY{e':Operand->Value}{d n:Nat}{o:Option Operand}(aQ:ob ρ e e' o)(hb:lU e d o=some n):(o=none/\n=d)\/∃k x,o=some x/\e' x=.int k n:=by
 cases o with
 | none=>simp only [lU,Option.some.injEq] at hb;exact .inl ⟨rfl,hb.symm⟩
 | some x=>
  simp only [lU] at hb;split at hb
  ·rename_i kk m he;cases hb;rw [ob,he] at aQ;generalize aH:e' x=z at aQ;cases aQ;exact .inr ⟨kk,x,rfl,aH⟩
  ·cases hb
theorem rY{k:IntKind}{n y:Nat}{c:BoundsCode}(ao:n<=y)(Q:Nat->ab->Prop):bf P (Instr.sliceBound (.int k n) y c) h Q=Q n h:=by
 have:(0:Int)<=(n:Int)/\(n:Int)<=(y:Int):=⟨by omega,by omega⟩;simp only [Instr.sliceBound,asIntOf,aV,bh,this,and_self,if_true,Int.toNat_natCast]
theorem EF{isS:Bool}{len cap l hh:Nat}{RO o6:Option Value}(hm:(∃k,RO=some (.int k hh)/\hh<=cap)\/(RO=none/\hh=len))(af:(∃k,o6=some (.int k l)/\l<=hh)\/(o6=none/\l=0))(Q:Nat×Nat×Nat->ab->Prop)(s8:Q (l,hh,cap) h):
  bf P (Instr.sliceBounds isS len cap o6 RO none) h Q:=by
 unfold Instr.sliceBounds;rw [aV,bh];rcases hm with ⟨k,rfl,h1⟩|⟨rfl,rfl⟩
 ·rw [aV];refine (rY h1 _).mpr ?_;rcases af with ⟨k',rfl,h2⟩|⟨rfl,rfl⟩
  ·rw [aV];exact (rY h2 _).mpr s8
  ·exact s8
 ·rw [aV,bh];rcases af with ⟨k',rfl,h2⟩|⟨rfl,rfl⟩
  ·rw [aV];exact (rY h2 _).mpr s8
  ·exact s8
theorem aeI{isS:Bool}{len cap l hh m:Nat}{k k':IntKind}{o6:Option Value}(h3:m<=cap)(h2:hh<=m)(af:(∃k,o6=some (.int k l)/\l<=hh)\/(o6=none/\l=0))(Q:Nat×Nat×Nat->ab->Prop)(s8:Q (l,hh,m) h):
  bf P (Instr.sliceBounds isS len cap o6 (some (.int k hh)) (some (.int k' m))) h Q:=by
 unfold Instr.sliceBounds;rw [aV];refine (rY h3 _).mpr ?_;rw [aV];refine (rY h2 _).mpr ?_;rcases af with ⟨k',rfl,h2⟩|⟨rfl,rfl⟩
 ·rw [aV];exact (rY h2 _).mpr s8
 ·exact s8
theorem JO{e':Operand->Value}{isS:Bool}{len cap l hh m:Nat}{lo hi bB:Option Operand}(xU:ob ρ e e' bB)(sI:ob ρ e e' hi)(qC:ob ρ e e' lo)(wB:(bB=none/\m=cap)\/∃k x,bB=some x/\e' x=.int k m)(Ba:(hi=none/\hh=len)\/∃k x,hi=some x/\e' x=.int k hh)(bl:(lo=none/\l=0)\/∃k x,lo=some x/\e' x=.int k l)
  (hs:hi.isSome=true\/bB.isNone=true) (h1:l<=hh) (h2:hi=none\/hh<=m) (h3:bB=none\/m<=cap) (Q:Nat×Nat×Nat->ab->Prop) (s8:Q (l,hh,m) h):
  bf P (Instr.sliceBounds isS len cap (lo.map e') (hi.map e') (bB.map e')) h Q:=by
 have af:(∃k,lo.map e'=some (.int k l)/\l<=hh)\/(lo.map e'=none/\l=0):=by
  rcases bl with ⟨rfl,rfl⟩|⟨cX,xl,rfl,el⟩
  ·exact .inr ⟨rfl,rfl⟩
  ·exact .inl ⟨cX,congrArg some el,h1⟩
 rcases wB with ⟨rfl,rfl⟩|⟨ab9,ayT,rfl,em⟩
 ·refine EF ?_ af Q s8;rcases Ba with ⟨rfl,rfl⟩|⟨Bb,ayU,rfl,o7⟩
  ·exact .inr ⟨rfl,rfl⟩
  ·exact .inl ⟨Bb,congrArg some o7,h2.resolve_left (by simp)⟩
 ·rcases Ba with ⟨rfl,rfl⟩|⟨Bb,ayU,rfl,o7⟩
  ·exact absurd hs (by simp)
  ·have:=aeI (P:=P) (isS:=isS) (len:=len) (k:=Bb) (k':=ab9) (h3.resolve_left (by simp)) (h2.resolve_left (by simp)) af Q s8;rw [<- o7,<- em] at this;exact this
theorem akm{e':Operand->Value}{o:Option Operand}(aQ:∀x∈o.toList,bw ρ (b5 e x) (e' x)):ob ρ e e' o:=by
 cases o with
 | none=>trivial
 | some x=>exact aQ x (by simp)
theorem JV{c:Nat}:lK c=true↔2305843009213693952<=c:=⟨fun h=>Nat.le_of_ble_eq_true h,fun h=>Nat.ble_eq_true_of_le h⟩
theorem yT{c:Nat}:lK c=false↔c<2305843009213693952:=by
 rw [<- Bool.not_eq_true,JV];omega
theorem yU{k c:Nat}(h:lK c=false):jv k c=c:=by simp [jv,h]
theorem Bu{k c:Nat}(h:lK c=true):jv k c=k- (dj- c):=by simp [jv,h]
theorem gj{a b:Nat}(h:Nat.ble a b=true):a<=b:=Nat.le_of_ble_eq_true h
theorem beq_eq{a b:Nat}(h:Nat.beq a b=true):a=b:=Nat.eq_of_beq_eq_true h
theorem anf(S:cD P bj ρ H.get H.ar h){t:Nat}{e':Operand->Value}(aj:P.underlying t=some .string){x:Operand}{lo hi:Option Operand}{x':Value}(aa:cA call e H (.sF x lo hi)=some (v,H'))(h1:bw ρ (b5 e x) x')(qC:ob ρ e e' lo)(sI:ob ρ e e' hi)(k:fU P bj ρ H h v H' K):
  @au P _ (Instr.sliceAt t x' (lo.map e') (hi.map e') none) h ⟨K⟩:=by
 simp only [cA] at aa;split at aa
 ·rename_i s he;rw [he] at h1;split at aa
  ·rename_i hh C1;split at aa
   ·rename_i l jX;cases hc:(Nat.ble hh s.length&&Nat.ble l hh) with
    | false=>rw [hc] at aa;cases aa
    | true=>
     rw [hc,cond_true] at aa;simp only [Bool.and_eq_true] at hc;have c1:=gj hc.1;have c2:=gj hc.2;rw [wS] at aa;obtain ⟨_,aa⟩:=za _ _ _ _ aa;cases aa;cases h1;simp only [au,Instr.sliceAt,aV,df,aj];simp only [Instr.slice,aV,df,aj];rw [if_neg (by simp),aV];refine JO (e:=e) (bB:=none) trivial sI qC (.inl ⟨rfl,rfl⟩) (qY sI C1) (qY qC jX) (.inr rfl) c2 ?_ (.inl rfl) _ ?_
     ·exact .inr c1
     ·have:(⟨⟨s⟩⟩:ByteArray).extract l hh=⟨⟨(s.drop l).take (hh- l)⟩⟩:=by
       apply ByteArray.ext;rw [ByteArray.data_extract];apply Array.toList_inj.1;simp
      show K (.string ((⟨⟨s⟩⟩:ByteArray).extract l hh)) h;rw [this];exact k.same S (.string _)
   ·cases aa
  ·cases aa
 ·cases aa
theorem WW(S:cD P bj ρ H.get H.ar h){c b kk o size l hh m dR:Nat}(al:ρ c=some (b,kk))(aa:(jS (hh- l) fun n=>jS (m- l) fun dS=>cond (Nat.beq m l) (some (Value.slice (some ⟨c,o,none⟩) n dS,H)) (jS (o+l*size) fun o=>some (Value.slice (some ⟨c,o,none⟩) n dS,H)))=some (v,H'))
  (hm:jv kk (m- l)=dR- l) (he:m=l->dR=l) (xV:m≠l->dR=l->l=0) (k:fU P bj ρ H h v H' K):K (.slice (some (if dR=l then ⟨b,o,none⟩ else (⟨b,o,none⟩:Addr).add (l*size))) (hh- l) (dR- l)) h:=by
 simp only [jH] at aa;cases hb:Nat.beq m l with
 | true=>
  rw [hb,cond_true] at aa;cases aa;rw [if_pos (he (beq_eq hb)),<- hm];exact k.same S (.sl _ _ _ al)
 | false=>
  rw [hb,cond_false] at aa;cases aa;have b7:m≠l:=fun e=>by subst e;simp at hb
  have:(if dR=l then (⟨b,o,none⟩:Addr) else (⟨b,o,none⟩:Addr).add (l*size))=⟨b,o+l*size,none⟩:=by
   split
   ·rename_i e;rw [xV b7 e];simp
   ·exact k5
  rw [this,<- hm];exact k.same S (.sl _ _ _ al)
theorem ang(S:cD P bj ρ H.get H.ar h){t n el bo:Nat}{e':Operand->Value}(aj:P.underlying t=some (.array n el))(hs:cy P el=some bo){x:Operand}{lo hi bB:Option Operand}{x':Value}(cW:(hi.isSome||bB.isNone)=true)(ao:Nat.ble n 1000000=true)(aa:cA call e H (.Ia n bo x lo hi bB)=some (v,H'))(h1:bw ρ (b5 e x) x')(qC:ob ρ e e' lo)(sI:ob ρ e e' hi)(xU:ob ρ e e' bB)(k:fU P bj ρ H h v H' K):
  @au P _ (Instr.sliceAt t x' (lo.map e') (hi.map e') (bB.map e')) h ⟨K⟩:=by
 simp only [cA] at aa;split at aa
 ·rename_i c o he;rw [he] at h1;split at aa
  ·rename_i m C2;split at aa
   ·rename_i hh C1;split at aa
    ·rename_i l jX;cases hc:(Nat.ble l hh&&Nat.ble hh m&&Nat.ble m n) with
     | false=>rw [hc] at aa;cases aa
     | true=>
      rw [hc,cond_true] at aa;simp only [Bool.and_eq_true] at hc;have c1:=gj hc.1.1;have c2:=gj hc.1.2;have c3:=gj hc.2;have c4:=gj ao;cases h1 with
      | ptr o al=>
       simp only [au,Instr.sliceAt,aV,df,aj,Instr.sureAddr,bh];refine JO (e:=e) xU sI qC (qY xU C2) (qY sI C1) (qY qC jX) (by simpa using cW) c1 (.inr c2) (.inr c3) _ ?_;simp only [aV,gL,hs,bh];exact WW S al aa (yU (yT.2 (by omega))) (fun e=>e) (fun a b=>absurd b a) k
    ·cases aa
   ·cases aa
  ·cases aa
 ·cases aa
theorem apN(S:cD P bj ρ H.get H.ar h){t el bo:Nat}{e':Operand->Value}(aj:P.underlying t=some (.slice el))(hs:cy P el=some bo)(oU:1<=bo){x:Operand}{lo hi bB:Option Operand}{x':Value}(cW:(hi.isSome||bB.isNone)=true)(aa:cA call e H (.sl el bo x lo hi bB)=some (v,H'))(h1:bw ρ (b5 e x) x')(qC:ob ρ e e' lo)(sI:ob ρ e e' hi)(xU:ob ρ e e' bB)(k:fU P bj ρ H h v H' K):
  @au P _ (Instr.sliceAt t x' (lo.map e') (hi.map e') (bB.map e')) h ⟨K⟩:=by
 have pre:∀(a:Option Addr) (len cap l hh m:Nat),x'=.slice a len cap->((bB=none/\m=cap)\/∃k x,bB=some x/\e' x=.int k m)->((hi=none/\hh=len)\/∃k x,hi=some x/\e' x=.int k hh)->((lo=none/\l=0)\/∃k x,lo=some x/\e' x=.int k l)->l<=hh->(hi=none\/hh<=m)->(bB=none\/m<=cap)->
   K (.slice (if m=l then a else a.map (·.add (l*bo))) (hh- l) (m- l)) h->@au P _ (Instr.sliceAt t x' (lo.map e') (hi.map e') (bB.map e')) h ⟨K⟩:=by
  rintro a len cap l hh m rfl wB Ba bl c1 c2 c3 iC;simp only [au,Instr.sliceAt,aV,df,aj];simp only [Instr.slice,aV,df,aj];refine JO (e:=e) xU sI qC wB Ba bl (by simpa using cW) c1 c2 c3 _ ?_;simp only [aV,gL,hs,bh];exact iC
 simp only [cA] at aa;split at aa
 ·rename_i c o len cap he;rw [he] at h1;split at aa
  ·rename_i m C2;split at aa
   ·rename_i hh C1;split at aa
    ·rename_i l jX;split at aa
     ·rename_i u hu;cases h1 with
      | sl o n m0 al=>
       rename_i b kk;have Ba:=qY sI C1;have bl:=qY qC jX;have wB:=qY xU C2;have fin:∀dR:Nat,((bB=none/\dR=jv kk cap)\/∃k x,bB=some x/\e' x=.int k dR)->l<=hh->(hi=none\/hh<=dR)->(bB=none\/dR<=jv kk cap)->jv kk (m- l)=dR- l->(m=l->dR=l)->(m≠l->dR=l->l=0)->
         @au P _ (Instr.sliceAt t (.slice (some ⟨b,o,none⟩) len (jv kk cap)) (lo.map e') (hi.map e') (bB.map e')) h ⟨K⟩:=fun dR an az aB aX cp fw ow=>by
        refine pre _ _ _ l hh dR rfl an Ba bl az aB aX ?_;have:=WW S al aa cp fw ow k;split
        ·rename_i e;rw [if_pos e] at this;exact this
        ·rename_i e;rw [if_neg e] at this;exact this
       cases pC:lK cap with
       | false=>
        simp only [pC] at hu;have gd:jv kk cap=cap:=yU pC;cases hc:(Nat.ble l hh&&Nat.ble hh m&&Nat.ble m cap) with
        | false=>rw [hc] at hu;cases hu
        | true=>
         simp only [Bool.and_eq_true] at hc;have c1:=gj hc.1.1;have c2:=gj hc.1.2;have c3:=gj hc.2;have c4:=yT.1 pC;exact fin m (by rw [gd];exact wB) c1 (.inr c2) (.inr (by rw [gd];exact c3)) (yU (yT.2 (by omega))) (fun e=>e) (fun a b=>absurd b a)
       | true=>
        simp only [pC] at hu;split at hu
        ·rename_i own bt cs aG;obtain ⟨b9,AG,eu,hb⟩:=S.blk c _ aG;rw [al] at eu;cases eu;obtain ⟨arr,fr,b2,rest,an,az,aB,aX,cp,fw⟩:=hb;obtain ⟨PY,ow,o8⟩:=fw rfl;cases vx:bB with
         | none=>
          rw [vx] at hu;cases hc:(Nat.beq bt el&&Nat.ble cap dj&&Nat.beq o ((dj- cap)*bo)&&Nat.ble l hh&&Nat.ble (o+hh*bo) cs.length&&(lK (m- l)&&(Nat.beq l 0||Nat.blt (o+l*bo) cs.length))) with
          | false=>simp only [hc] at hu;cases hu
          | true=>
           simp only [Bool.and_eq_true,Bool.or_eq_true] at hc;obtain ⟨⟨⟨⟨⟨d1,d2⟩,d3⟩,d4⟩,d5⟩,d6,d7⟩:=hc;have e1:=beq_eq d1;have e2:=gj d2;have e3:=beq_eq d3;have e4:=gj d4;have e5:=gj d5;subst e1;rw [hs] at ow;cases ow;have hlen:cs.length<=kk*bo:=by rw [<- o8,<- Array.length_toList,aB,List.length_append,aX.length];omega
           have gd:jv kk cap=kk- (dj- cap):=Bu pC;rw [vx] at wB;have au3:m=cap:=by rcases wB with ⟨_,h⟩|⟨_,_,h,_⟩;exact h;cases h
           subst au3;have hk:(dj- m)+hh<=kk:=by
            have:((dj- m)+hh)*bo<=kk*bo:=by rw [Nat.add_mul,<- e3];omega
            exact Nat.le_of_mul_le_mul_right this (by omega)
           have jX:=JV.1 d6;rw [<- vx];refine fin (kk- (dj- m)) (.inl ⟨vx,gd.symm⟩) e4 (.inr (by omega)) (.inl vx) ?_ (fun e=>by omega) (fun _ e=> ?_)
           ·rw [Bu d6];omega
           ·rcases d7 with d7|d7
            ·exact beq_eq d7
            ·have d7:=sc d7;have:((dj- m)+l)*bo<kk*bo:=by rw [Nat.add_mul,<- e3];omega
             have:=Nat.lt_of_mul_lt_mul_right this;omega
         | some ayT=>
          rw [vx] at hu;cases hc:(Nat.beq bt el&&Nat.ble cap dj&&Nat.beq o ((dj- cap)*bo)&&Nat.ble l hh&&Nat.ble (o+hh*bo) cs.length&&(Nat.ble hh m&&Nat.ble (o+m*bo) cs.length&&not (lK m))) with
          | false=>simp only [hc] at hu;cases hu
          | true=>
           simp only [Bool.and_eq_true] at hc;obtain ⟨⟨⟨⟨⟨d1,d2⟩,d3⟩,d4⟩,d5⟩,⟨d6,d7⟩,d8⟩:=hc;have e1:=beq_eq d1;have e3:=beq_eq d3;have e4:=gj d4;have e6:=gj d6;have e7:=gj d7;subst e1;rw [hs] at ow;cases ow;have hlen:cs.length<=kk*bo:=by rw [<- o8,<- Array.length_toList,aB,List.length_append,aX.length];omega
           have gd:jv kk cap=kk- (dj- cap):=Bu pC;have hk:(dj- cap)+m<=kk:=by
            have:((dj- cap)+m)*bo<=kk*bo:=by rw [Nat.add_mul,<- e3];omega
            exact Nat.le_of_mul_le_mul_right this (by omega)
           have C2:lK m=false:=by simpa using d8
           have hY:=yT.1 C2;rw [<- vx];refine fin m ?_ e4 (.inr e6) (.inr (by rw [gd];omega)) (yU (yT.2 (by omega))) (fun e=>e) (fun a b=>absurd b a);rcases wB with ⟨h,_⟩|h
           ·rw [vx] at h;cases h
           ·exact .inr h
        ·cases hu
     ·cases aa
    ·cases aa
   ·cases aa
  ·cases aa
 ·rename_i he;rw [he] at h1;split at aa
  ·rename_i cl bV dz;cases aa;cases h1;refine pre none 0 0 0 0 0 rfl (qY xU cl) (qY sI bV) (qY qC dz) (Nat.le_refl _) (.inr (Nat.le_refl _)) (.inr (Nat.le_refl _)) ?_;exact k.same S (.vS _ _)
  ·cases aa
 ·cases aa
end
end
end Go.Nk
