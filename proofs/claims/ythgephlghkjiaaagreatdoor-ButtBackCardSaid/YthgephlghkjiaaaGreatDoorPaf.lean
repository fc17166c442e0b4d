/- Part Paf of the proof of ButtBack: lemmas. -/
import Derived.Test.YthgephlghkjiaaaGreatDoorPae
set_option maxRecDepth 100000
set_option maxHeartbeats 4000000
set_option linter.all false
namespace Go.Nk
noncomputable section
open Go Go.Conc Go.Proofs
section
variable{P:Program}{bj:Nat}{ρ:bq}{H H':aL}{h:ab}{call:FuncId->List Value->aL->Option (Value×aL)}{e:cJ}{v:Value}{K:Value->ab->Prop}
theorem Eu{r:Nat}{o:Obj}{p:Bool}(al:h r=some ⟨o,p⟩)(h1:ab.mK o=true)(h2:o.isChan=false)(Q:Obj->ab->Prop):bf P (getObj r) h Q=Q o h:=by
 simp only [getObj,bf,al,h1,h2,true_and]
theorem JP{r:Nat}{o aO:Obj}(al:h r=some ⟨o,true⟩)(h1:ab.mK o=true)(h2:aO.isChan=false)(Q:Unit->ab->Prop):bf P (setObj r aO) h Q=Q () (h.put r ⟨aO,true⟩):=by
 simp only [setObj,bf,al,h1,h2,true_and]
theorem Em{em:Bool}{t:TypeId}{str:Bool}(aj:pB P t=some str){x:Value}(Q:Unit->ab->Prop):bf P (Instr.checkKey em 10000 t x) h Q=Q () h:=by
 show bf P (Instr.checkKey em (9999+1) t x) h Q=_;generalize 9999=d;unfold pB at aj;rw [Instr.checkKey];simp only [aV,df];cases hu:P.underlying t with
 | none=>rw [hu] at aj;cases aj
 | some d=>
  rw [hu] at aj;cases d<;>simp only [reduceCtorEq] at aj<;>cases aj
  ·cases x<;>rfl
  ·cases x<;>rfl
theorem WX(a b:ByteArray):(a==b)=(a.data==b.data):=by cases a;cases b;rfl
theorem S8{t:TypeId}{d:TypeDesc}{str:Bool}(aj:pB P t=some str)(hd:P.underlying t=some d){x x' a fh:Value}(aa:bw ρ x x')(aA:bw ρ a fh){b:Bool}(hk:B7 str x a=some b):Instr.sameNow d x' fh=some b/\(b=true->Instr.sameBits 10000 fh x'=true):=by
 unfold pB at aj;rw [hd] at aj;cases str with
 | true=>
  have:d=.string:=by cases d<;>simp at aj;rfl
  subst this;simp only [B7] at hk;split at hk
  ·cases hk;cases aa;cases aA;simp only [Instr.sameNow,Instr.sameBits];rw [EY];rename_i p q;have e1:((⟨⟨p⟩⟩:ByteArray)==⟨⟨q⟩⟩)=(p==q):=by
    rw [WX,Bool.eq_iff_iff,beq_iff_eq,beq_iff_eq];exact ⟨fun h=>by cases h;rfl,fun h=>by rw [h]⟩
   have e2:((⟨⟨q⟩⟩:ByteArray)==⟨⟨p⟩⟩)=(p==q):=by
    rw [WX,Bool.eq_iff_iff,beq_iff_eq,beq_iff_eq];exact ⟨fun h=>by cases h;rfl,fun h=>by rw [h]⟩
   rw [e1,e2];exact ⟨rfl,fun h=>h⟩
  ·cases hk
 | false=>
  obtain ⟨k0,rfl⟩:∃k0,d=.int k0:=by cases d<;>simp at aj;exact ⟨_,rfl⟩
  simp only [B7] at hk;split at hk
  ·rename_i k a k' b9;cases aa;cases aA;cases hs:xh k k' with
   | false=>rw [hs] at hk;cases hk
   | true=>
    rw [hs,cond_true] at hk;have:=KD hs;subst this;cases hk;simp only [Instr.sameNow,if_true,F0,Instr.sameBits,true_and,Option.some.injEq];simp;exact fun h=>h.symm
  ·cases hk
theorem ad0{t:TypeId}{d:TypeDesc}{str:Bool}(aj:pB P t=some str)(hd:P.underlying t=some d){x x':Value}(aa:bw ρ x x'):∀(es:List (Value×Value×Nat)) (eA:List MapEntry) (i:Nat),mm ρ es eA->∀r,xj str x es=some r->
  match r with
  | some w=>∃j w',Instr.findNow d x' eA i=some (some (i+j,w'))/\bw ρ w w'/\j<eA.length/\(∃m,eA[j]? =some m/\Instr.sameBits 10000 m.key x'=true)/\∀u s9,bw ρ u s9->mm ρ (xB str x u es) (eA.modify j fun e=> {e with key:=x',val:=s9})
  | none=>Instr.findNow d x' eA i=some none:=by
 intro es
 induction es with
 | nil=>
  intro eA i he r al;cases eA with
  | nil=>simp only [xj,Option.some.injEq] at al;subst al;rfl
  | cons _ _=>exact he.elim
 | cons p es aN=>
  intro eA i he r al;obtain ⟨a,w,n⟩:=p;cases eA with
  | nil=>exact he.elim
  | cons m eA=>
   obtain ⟨h1,h2,h3,h4⟩:=he;simp only [xj] at al;split at al
   ·rename_i hk;cases al;obtain ⟨this,Bc⟩:=S8 aj hd aa h1 hk;refine ⟨0,m.val,by simp only [Instr.findNow,this,Nat.add_zero],h2,by simp,⟨m,rfl,Bc rfl⟩,fun u s9 hu=> ?_⟩;simp only [xB,hk,List.modify_zero_cons];exact ⟨aa,hu,h3,h4⟩
   ·rename_i hk;have e1:=(S8 aj hd aa h1 hk).1;have:=aN eA (i+1) h4 r al;cases r with
    | none=>simp only [Instr.findNow,e1] at this ⊢;exact this
    | some w0=>
     obtain ⟨j,w',an,az,aB,⟨dR,aX,cp⟩,fw⟩:=this;refine ⟨j+1,w',?_,az,by simpa using aB,⟨dR,by simpa using aX,cp⟩,fun u s9 hu=> ?_⟩
     ·simp only [Instr.findNow,e1];rw [an,Nat.add_right_comm,Nat.add_assoc]
     ·simp only [xB,hk,List.modify_succ_cons];exact ⟨h1,h2,h3,fw u s9 hu⟩
   ·cases al
theorem Eo{ov:TypeId}{str:Bool}(hk:pB P ov=some str){x x':Value}(aa:bw ρ x x'){es:List (Value×Value×Nat)}{eA:List MapEntry}(he:mm ρ es eA){r:Option Value}(al:xj str x es=some r)(Q:Option (Nat×Value)->ab->Prop)
  (hs:∀w j w',r=some w->bw ρ w w'->j<eA.length->(∃m,eA[j]? =some m/\Instr.sameBits 10000 m.key x'=true)->(∀u s9,bw ρ u s9->mm ρ (xB str x u es) (eA.modify j fun e=> {e with key:=x',val:=s9}))->Q (some (j,w')) h) (ao:r=none->Q none h):bf P (Instr.findKey ov x' eA) h Q:=by
 cases hd:P.underlying ov with
 | none=>unfold pB at hk;rw [hd] at hk;cases hk
 | some d=>
  have:=ad0 hk hd aa es eA 0 he r al;simp only [Instr.findKey,aV,df,hd];cases r with
  | none=>simp only at this;rw [this];exact ao rfl
  | some w=>
   obtain ⟨j,w',an,az,aB,aX,cp⟩:=this;rw [Nat.zero_add] at an;rw [an];exact hs w j w' rfl az aB aX cp
theorem aeJ(S:cD P bj ρ H.get H.ar h){t ov el:TypeId}{str kk:Bool}{z:Value}(aj:P.underlying t=some (.map ov el))(hk:pB P ov=some str)(aH:zeroOf P el=some z)(aK:B9 z=true){x y:Operand}{x' c8:Value}(aa:cA call e H (.lookup str z kk x y)=some (v,H'))(h1:bw ρ (b5 e x) x')(h2:bw ρ (b5 e y) c8)(k:fU P bj ρ H h v H' K):
  @au P _ (Instr.lookup t x' c8 kk) h ⟨K⟩:=by
 simp only [cA] at aa;split at aa
 ·rename_i c he;rw [he] at h1;split at aa
  ·rename_i own es ck aG;cases h1 with
   | map al=>
    obtain ⟨b9,k',eu,hb⟩:=S.blk c _ aG;rw [al] at eu;cases eu;obtain ⟨nC,fr,an,az,aB⟩:=hb;simp only [au,Instr.lookup,aV,df,aj];rw [Eu an rfl rfl];simp only [aV,bh];rw [Em hk];split at aa
    ·rename_i w aP;refine Eo hk h2 aB aP _ (fun w0 j w' e0 hw ae _ _=> ?_) (fun e0=>by cases e0);cases e0;simp only [aV,bh];cases kk with
     | true=>simp only at aa;cases aa;exact k.same S (.tuple (.cons hw (.one (.bool _))))
     | false=>simp only at aa;cases aa;exact k.same S hw
    ·rename_i aP;refine Eo hk h2 aB aP _ (fun w0 j w' e0 hw ae _ _=>by cases e0) (fun _=> ?_);simp only [aV,iD,aH,bh];cases kk with
     | true=>simp only at aa;cases aa;exact k.same S (.tuple (.cons (Up aK) (.one (.bool _))))
     | false=>simp only at aa;cases aa;exact k.same S (Up aK)
    ·cases aa
  ·cases aa
 ·cases aa
theorem adx{es:List (Value×Value×Nat)}{eA:List MapEntry}(he:mm ρ es eA){a w:Value}{m:MapEntry}(h1:bw ρ a m.key)(h2:bw ρ w m.val):mm ρ (es++[(a,w,m.born)]) (eA++[m]):=by
 induction es generalizing eA with
 | nil=>
  cases eA with
  | nil=>exact ⟨h1,h2,rfl,trivial⟩
  | cons _ _=>exact he.elim
 | cons p es aN=>
  obtain ⟨x,y,n⟩:=p;cases eA with
  | nil=>exact he.elim
  | cons q eA=>obtain ⟨an,az,aB,aX⟩:=he;exact ⟨an,az,aB,aN aX⟩
theorem ahj(S:cD P bj ρ H.get H.ar h){t ov el:TypeId}{str:Bool}(aj:P.underlying t=some (.map ov el))(hk:pB P ov=some str){x y z:Operand}{x' c8 j4:Value}(aa:cA call e H (.GO str x y z)=some (v,H'))(h1:bw ρ (b5 e x) x')(h2:bw ρ (b5 e y) c8)(h3:bw ρ (b5 e z) j4)(k:fU P bj ρ H h v H' K):
  @au P _ (Instr.mapUpdate t x' c8 j4) h ⟨fun _ h=>K undef h⟩:=by
 simp only [cA] at aa;split at aa
 ·rename_i c he;rw [he] at h1;split at aa
  ·rename_i es ck aG;cases af:Nat.ble H.cg c with
   | false=>rw [af] at aa;cases aa
   | true=>
    rw [af,cond_true] at aa;cases h1 with
    | map al=>
     rename_i bb ZN;obtain ⟨b9,k',eu,hb⟩:=S.blk c _ aG;rw [al] at eu;cases eu;obtain ⟨nC,fr,an,az,aB⟩:=hb;have:=az rfl;subst this;have hw:gH H c:=GR af aG rfl;simp only [au,Instr.mapUpdate,aV,df,aj];rw [Eu an rfl rfl];simp only [aV];rw [Em hk];split at aa
     ·rename_i w aP;rw [aL.nX] at aa;cases aa;refine Eo hk h2 aB aP _ (fun w0 j w' e0 au4 ae hm hu=> ?_) (fun e0=>by cases e0);obtain ⟨m,fx,fW⟩:=hm;have PZ:nC[j]? =some m:=by rw [<- Array.getElem?_toList];exact fx
      simp only [aV,PZ,Option.map_some,Option.getD_some,Instr.keyThatStays,fW,if_true,bh];rw [JP an rfl rfl];have ax:Bk P ρ ZN (.mp true (xB str (b5 e y) (b5 e z) es) ck) (some ⟨.map (nC.modify j fun e=> {e with key:=c8,val:=j4}) ck,true⟩):=⟨_,true,rfl,fun _=>rfl,by rw [Array.toList_modify];exact hu _ _ h3⟩;obtain ⟨s1,s2⟩:=K5 S aG hw rfl al ax;exact k _ _ _ s1 bw.undef s2
     ·rename_i aP;rw [aL.nX] at aa;cases aa;refine Eo hk h2 aB aP _ (fun w0 j w' e0 au4 ae hm hu=>by cases e0) (fun _=> ?_);simp only [aV,bh];rw [JP an rfl rfl];have ax:Bk P ρ ZN (.mp true (es++[(b5 e y,b5 e z,ck)]) (ck+1)) (some ⟨.map (nC.push {key:=c8,val:=j4,born:=ck}) (ck+1),true⟩):=⟨_,true,rfl,fun _=>rfl,by rw [Array.toList_push];exact adx (m:=⟨c8,j4,ck⟩) aB h2 h3⟩;obtain ⟨s1,s2⟩:=K5 S aG hw rfl al ax;exact k _ _ _ s1 bw.undef s2
     ·cases aa
  ·cases aa
 ·cases aa
theorem wrap_small{n:Nat}(ao:n<4611686018427387904):IntKind.i64.wrap (n:Int)=n:=by
 have e:=X0 .i64 (.ofNat n);have hb:Nat.blt n 9223372036854775808=true:=Nat.ble_eq_true_of_le (by omega);have e2:wr .i64 (.ofNat n)=.ofNat n:=by
  show cond (Nat.blt n 128) (Int.ofNat n) (cond (Nat.blt n 9223372036854775808) (Int.ofNat n) _)=_;rw [hb];cases Nat.blt n 128<;>rfl
 rw [e2] at e;exact e.symm
theorem u5{t:TypeId}{i:TypeInfo}(hi:P.info? t=some i)(Q:TypeInfo->ab->Prop):bf P (typeInfo t) h Q=Q i h:=by
 simp only [typeInfo,aV,mJ,hi,bh]
theorem Ep{n:Nat}(Q:Unit->ab->Prop):bf P (askRoom n) h Q=Q () h:=by
 unfold askRoom;split
 ·rw [Tt];simp [sa]
 ·rfl
theorem ad1(S:cD P bj ρ H.get H.ar h)(cU:bj<=H.ar){t el m bs:Nat}{z:Value}(aj:P.underlying t=some (.slice el))(aH:zeroOf P el=some z)(hs:cy P el=some m)(fv:bytesOf P el=some bs)
  (aK:(lL (ew z)&&Nat.beq (ew z).length m&&Nat.ble 1 m)=true) {x y:Operand} {x' c8:Value} (aa:cA call e H (.mkSlice el m bs (ew z) x y)=some (v,H')) (h1:bw ρ (b5 e x) x') (h2:bw ρ (b5 e y) c8) (k:fU P bj ρ H h v H' K):
  @au P _ (Instr.makeSlice t x' c8) h ⟨K⟩:=by
 simp only [Bool.and_eq_true] at aK;obtain ⟨⟨fV,p2⟩,p3⟩:=aK;have hm:=beq_eq p2;have PZ:=gj p3;have ks:z.cells.size=m:=by rw [<- Array.length_toList,<- tn];exact hm
 have jy:cV ρ (ew z) z.cells.toList:=by rw [<- tn];exact wP fV
 simp only [cA] at aa;split at aa
 ·rename_i k1 l bX c jW hX;rw [jW] at h1;rw [hX] at h2;cases h1;cases h2;cases hc:(Nat.ble l c&&Nat.ble c 1000&&Nat.ble bs 1000) with
  | false=>rw [hc] at aa;cases aa
  | true=>
   rw [hc,cond_true,aL.qZ] at aa;cases aa;simp only [Bool.and_eq_true] at hc;have c1:=gj hc.1.1;have c2:=gj hc.1.2;have c3:=gj hc.2;have wl:IntKind.i64.wrap (Int.ofNat l)=(l:Int):=wrap_small (by omega);have wc:IntKind.i64.wrap (Int.ofNat c)=(c:Int):=wrap_small (by omega);obtain ⟨fp,uh,jc⟩:∃fp,P.info? el=some fp/\fp.bytes=bs:=by
    unfold bytesOf at fv;cases aE:P.info? el with
    | none=>rw [aE] at fv;cases fv
    | some fp=>rw [aE] at fv;cases fv;exact ⟨fp,rfl,rfl⟩
   have fin:bf P (newRow el ⟨ml z.cells.toList c⟩) h (fun a h=>K (.slice (some a) l c) h):=by
    simp only [newRow,aV,qX,bh];intro b hb;obtain ⟨s1,s2⟩:=J7 S cU (t:=el) hb (EZ jy c);have iK:=bw.sl (ρ:=ρ.ext H.ar b 0) 0 l c bq.mL;rw [yU (yT.2 (by omega))] at iK;exact k _ _ _ s1 iK s2
   have ui:(bs:Int)*(c:Int)<=1000000:=by
    have:bs*c<=1000*1000:=Nat.mul_le_mul c3 c2;rw [<- Int.natCast_mul];exact Int.ofNat_le.2 this
   have aAC:c*bs<=1000000:=by
    have:c*bs<=1000*1000:=Nat.mul_le_mul c2 c3;exact this
   simp only [au,Instr.makeSlice,aV,df,aj,asInt,asIntOf,bh];rw [u5 uh];simp only [wl,wc,jc];rw [if_neg (by simp only [Bool.or_eq_true,decide_eq_true_eq];omega)];simp only [aV,Ep,gL,hs,Int.toNat_natCast];by_cases h0:c*m=0
   ·have ZO:c=0:=by rcases Nat.mul_eq_zero.1 h0 with h|h<;>omega
    have Pa:(Array.range (c*m)).map (fun i=>(#[]:Array Value)[i%(#[]:Array Value).size]!)=⟨ml z.cells.toList c⟩:=by
     rw [ZO];simp [ml]
    rw [if_pos h0];simp only [aV,bh];rw [Pa];exact fin
   ·rw [if_neg h0];simp only [aV,iD,aH,bh];rw [K6 ks PZ];exact fin
 ·cases aa
theorem JH{b o n:Nat}{vs:List Value}(hc:h.iU ⟨b,o,none⟩ 0 n=some vs)(Q:Array Value->ab->Prop):bf P (loadCells ⟨b,o,none⟩ n) h Q=Q ⟨vs⟩ h:=by
 unfold loadCells;rw [Su,hc];simp
theorem akn(S:cD P bj ρ H.get H.ar h){t el bo:Nat}{dN:List TypeId}{ty:TypeId}(aj:P.underlying t=some (.slice el))(hs:cy P el=some bo){x y:Operand}{x' c8:Value}(aa:cA call e H (.copy bo x y)=some (v,H'))(h1:bw ρ (b5 e x) x')(h2:bw ρ (b5 e y) c8)(k:fU P bj ρ H h v H' K):
  @au P _ (Builtin.copy_ ⟨t::dN⟩ ty ⟨[x',c8]⟩) h ⟨K⟩:=by
 simp only [cA] at aa;split at aa
 ·rename_i b o n c1 b9 aO m c2 jW hX;rw [jW] at h1;rw [hX] at h2;rw [jH] at aa;cases h1 with
  | sl o n fx al=>
   cases h2 with
   | sl aO m fW eu=>
    obtain ⟨vs,ev,k1,bX,eL,e8,_⟩:=zA S eu aa;obtain ⟨H1,h1,an,az,aB,aX⟩:=BR S al bX k1;cases an;have asw:(bif Nat.ble m n then m else n)=Nat.min m n:=by
     cases hb:Nat.ble m n with
     | true=>exact (Nat.min_eq_left (gj hb)).symm
     | false=>
      have:¬m<=n:=fun hle=>by rw [Nat.ble_eq_true_of_le hle] at hb;cases hb
      rw [cond_false];exact (Nat.min_eq_right (by omega)).symm
    rw [asw] at k e8;simp only [au,Builtin.copy_,List.getElem?_toArray,List.getElem?_cons_zero,List.getElem?_cons_succ,aV,df,aj,Builtin.lenOf,bh,gL,hs,Builtin.firstCells];rw [JH e8,Bp];refine aX _ ?_;exact k _ _ _ az (.int _ _) aB
 ·cases aa
theorem JL{z:Value}{m n:Nat}(ks:z.cells.size=m)(h1:1<=m):Builtin.zeroCells z.cells n=⟨ml z.cells.toList n⟩:=by
 unfold Builtin.zeroCells;have:=K6 (n:=n) ks h1;rw [<- ks] at this;exact this
theorem ahk(S:cD P bj ρ H.get H.ar h){t el m:Nat}{ty:TypeId}{z:Value}(aj:P.underlying t=some (.slice el))(aH:zeroOf P el=some z)(aK:(lL (ew z)&&Nat.ble 1 (ew z).length)=true){x:Operand}{x':Value}(aa:cA call e H (.clear (ew z) x)=some (v,H'))(h1:bw ρ (b5 e x) x')(k:fU P bj ρ H h v H' K):
  @au P _ (Builtin.clear_ ⟨[t]⟩ ty ⟨[x']⟩) h ⟨K⟩:=by
 simp only [Bool.and_eq_true] at aK;have jy:cV ρ (ew z) z.cells.toList:=by rw [<- tn];exact wP aK.1
 have hm:=gj aK.2;simp only [cA] at aa;split at aa
 ·rename_i a c he;cases aa;rw [he] at h1;have:∃fh b2,x'=.slice fh 0 b2:=by cases h1<;>exact ⟨_,_,rfl⟩
  obtain ⟨fh,b2,rfl⟩:=this;simp only [au,Builtin.clear_,List.getElem?_toArray,List.getElem?_cons_zero,aV,df,aj];cases fh<;>exact k.same S (.tuple .nil)
 ·rename_i b o n c b7 he;rw [he] at h1;cases h1 with
  | sl o n fx al=>
   obtain ⟨H1,h1,an,az,aB,aX⟩:=BR S al (EZ jy n) aa;cases an;have ao:n≠0:=fun e0=>b7 e0;simp only [au,Builtin.clear_,List.getElem?_toArray,List.getElem?_cons_zero,aV,df,aj];obtain ⟨n,rfl⟩:=Nat.exists_eq_succ_of_ne_zero ao;simp only [aV,iD,aH,Bp];rw [JL rfl (by rw [<- Array.length_toList,<- tn];exact hm)];refine aX _ ?_;exact k _ _ _ az (.tuple .nil) aB
 ·cases aa
end
section
variable{P:Program}{bj:Nat}{ρ:bq}{H H':aL}{h:ab}{call:FuncId->List Value->aL->Option (Value×aL)}{e:cJ}{v:Value}{K:Value->ab->Prop}
theorem ad2{n c:Nat}(h1:n<=200)(h2:c<n):Builtin.nextslicecap n c<=400:=by
 unfold Builtin.nextslicecap;split
 ·omega
 ·rw [if_pos (by omega)];omega
theorem u4{t t2 el Ig bo bs:Nat}{ty:TypeId}{z:Value}(aj:P.underlying t=some (.slice el))(lk:P.underlying t2=some (.slice Ig))(hs:cy P el=some bo)(fv:bytesOf P el=some bs)(aH:zeroOf P el=some z)(ks:z.cells.size=bo)(oU:1<=bo)(rz:1<=bs)
  {base:Option Addr} {len cap:Nat} {a2:Option Addr} {m c2:Nat} {new':List Value} (qq:∀Q,bf P (Builtin.firstCells bo m (.slice a2 m c2)) h Q=Q ⟨new'⟩ h)
  (inPlace:len+m<=cap->match base with|some a=>oI h (a.add (len*bo)) 0 new' (fun h=>K (.slice base (len+m) cap) h)|none=>K (.slice base (len+m) cap) h)
  (grow:cap<len+m->len+m<=200/\bs<=1000/\∃kQ,(∀Q,bf P (Builtin.firstCells bo len (.slice base len cap)) h Q=Q ⟨kQ⟩ h)/\∀kI,len+m<=kI->∀b,h b=none->∀rest:List Value,rest.length=(kI- (len+m))*bo->K (.slice (some ⟨b,0,none⟩) (len+m) kI) (h.put b ⟨.cells ⟨kQ++new'++rest⟩ el,true⟩)):
  bf P (Builtin.append_ ⟨[t,t2]⟩ ty ⟨[.slice base len cap,.slice a2 m c2]⟩) h K:=by
 obtain ⟨fp,uh,jc⟩:∃fp,P.info? el=some fp/\fp.bytes=bs:=by
  unfold bytesOf at fv;cases aE:P.info? el with
  | none=>rw [aE] at fv;cases fv
  | some fp=>rw [aE] at fv;cases fv;exact ⟨fp,rfl,rfl⟩
 simp only [Builtin.append_,List.getElem?_toArray,List.getElem?_cons_zero,List.getElem?_cons_succ,aV,df,aj,lk,gL,hs,bh,Bool.false_eq_true,if_false,Builtin.lenOf,Bool.not_false,if_true];by_cases hc:len+m<=cap
 ·rw [if_pos hc];simp only [aV,qq];have:=inPlace hc;cases base with
  | none=>exact this
  | some a=>simp only [aV,Bp];exact this
 ·rw [if_neg hc];obtain ⟨g1,g2,kQ,g3,g4⟩:=grow (by omega);simp only [aV];rw [u5 uh];have db:¬(((len+m:Nat):Int)>IntKind.i64.max/\(False\/fp.bytes=0)):=by
   rw [jc];rintro ⟨_,h|h⟩
   ·exact h
   ·omega
  have dB:¬(Builtin.nextslicecap (len+m) cap*fp.bytes>2^48):=by
   have h3:=ad2 g1 (show cap<len+m by omega);have h4:Builtin.nextslicecap (len+m) cap*fp.bytes<=400*1000:=Nat.mul_le_mul h3 (by rw [jc];exact g2);have:400*1000<=2^48:=by decide
   omega
  rw [if_neg (by simpa using db)];simp only [aV];rw [u5 uh,if_neg dB];simp only [aV,yS,Question.forced,Bool.false_eq_true,if_false];intro nP;rw [u5 uh];simp only [Ep,g3,qq,iD,aH,newRow,aV,qX,bh];intro b hb;have Pb:len+m<=(Question.appendCap (len+m) cap el).cut nP:=by
   show len+m<=len+m+_;exact Nat.le_add_right _ _
  have:=g4 _ Pb b hb (Builtin.zeroCells z.cells ((Question.appendCap (len+m) cap el).cut nP- (len+m))).toList (by rw [JL ks oU];simp only [Et,Array.length_toList,ks]);have e1:(⟨kQ⟩++⟨new'⟩++Builtin.zeroCells z.cells ((Question.appendCap (len+m) cap el).cut nP- (len+m)):Array Value)=⟨kQ++new'++(Builtin.zeroCells z.cells ((Question.appendCap (len+m) cap el).cut nP- (len+m))).toList⟩:=by
   apply Array.toList_inj.1;simp
  rw [e1];exact this
theorem Ut(S:cD P bj ρ H.get H.ar h)(cU:bj<=H.ar){c b kk:Nat}{x y:cn}{o:eI}(aG:H.get c=some x)(hw:gH H c)(af:x.live=true)(hc:ρ c=some (b,kk)){bV bX:Nat}(hY:bV=b\/h bV=none)(ax:Bk P (ρ.ext H.ar bV bX) bX y (some o)):
  cD P bj (ρ.ext H.ar bV bX) ((H.set c .dead).new y).get ((H.set c .dead).new y).ar (h.put bV o)/\gu H ρ h ((H.set c .dead).new y) (ρ.ext H.ar bV bX) (h.put bV o):=by
 have bY:c<H.ar:=Nat.lt_of_not_le fun iI=>by rw [S.ek c iI] at hc;cases hc
 have sH:=S.ek H.ar (Nat.le_refl _);have le:=bq.zB (b:=bV) (k:=bX) sH;have old:∀d z,((H.set c .dead).new y).get d=some z->d≠H.ar->z.live=true->H.get d=some z/\d≠c:=fun d z hd b7 vV=>by
  have e:(H.set c .dead).ar=H.ar:=rfl;rw [aL.w5,e,if_neg b7,aL.tu aG] at hd;split at hd
  ·cases hd;cases vV
  ·rename_i kt;exact ⟨hd,kt⟩
 have any:∀d z,((H.set c .dead).new y).get d=some z->d≠H.ar->∃j4,H.get d=some j4:=fun d z hd b7=>by
  have e:(H.set c .dead).ar=H.ar:=rfl;rw [aL.w5,e,if_neg b7,aL.tu aG] at hd;split at hd
  ·rename_i kt;rw [kt];exact ⟨x,aG⟩
  ·exact ⟨z,hd⟩
 have same:∀z,((H.set c .dead).new y).get H.ar=some z->z=y:=fun z hd=>by
  have e:(H.set c .dead).ar=H.ar:=rfl;rw [aL.w5,e,if_pos rfl] at hd;split at hd
  ·cases hd
  ·cases hd;rfl
 have apart:∀d z bb k,H.get d=some z->z.live=true->d≠c->ρ d=some (bb,k)->bb≠bV:=fun d z bb k hd vV kt al e=>by
  subst e;rcases hY with e2|e2
  ·subst e2;exact kt (S.inj d c z x bb k kk hd aG vV af al hc)
  ·obtain ⟨b9,k',h1,h2⟩:=S.blk d z hd;rw [al] at h1;cases h1;obtain ⟨Jo,Ih⟩:=h2.isSome vV;rw [e2] at Ih;cases Ih
 refine ⟨⟨fun d z hd=> ?_,fun d e u v bb k k' hd he hu aI h1 h2=> ?_,fun d hd=> ?_,fun g aG=> ?_⟩,⟨le,fun d hd=>bq.mf (by omega),Nat.le_succ _,rfl,rfl,fun d hd ao=> ?_,fun bb z ry hg=> ?_,fun d u bb k hd ao aAS h1=> ?_⟩⟩
 ·by_cases e:d=H.ar
  ·subst e;rw [same z hd];exact ⟨bV,bX,bq.mL,by rw [r5];exact ax⟩
  ·obtain ⟨j4,jy⟩:=any d z hd e;obtain ⟨bb,k,h1,h2⟩:=S.blk d j4 jy;refine ⟨bb,k,by rw [bq.mf e];exact h1,?_⟩;cases aH:z.live with
   | false=>cases z<;>simp [cn.live] at aH;trivial
   | true=>
    obtain ⟨fo,kt⟩:=old d z hd e aH;obtain ⟨aAT,k',dy,oj⟩:=S.blk d z fo;rw [h1] at dy;cases dy;rw [oH _ _ (apart d z bb k fo aH kt h1)];exact oj.mono le
 ·by_cases e1:d=H.ar<;>by_cases e2:e=H.ar
  ·rw [e1,e2]
  ·subst e1;rw [bq.mL] at h1;cases h1;rw [bq.mf e2] at h2;obtain ⟨xV,au5⟩:=old e v he e2 aI;exact absurd rfl (apart e v bV k' xV aI au5 h2)
  ·subst e2;rw [bq.mL] at h2;cases h2;rw [bq.mf e1] at h1;obtain ⟨fo,kt⟩:=old d u hd e1 hu;exact absurd rfl (apart d u bV k fo hu kt h1)
  ·rw [bq.mf e1] at h1;rw [bq.mf e2] at h2;exact S.inj d e u v bb k k' (old d u hd e1 hu).1 (old e v he e2 aI).1 hu aI h1 h2
 ·have:H.ar+1<=d:=hd;rw [bq.mf (by omega)];exact S.ek d (by omega)
 ·rw [bq.mf (by omega)];exact S.sn g aG
 ·have kt:d≠c:=fun e=>ao (by rw [e];exact hw);rw [aL.u9,show (H.set c .dead).ar=H.ar from rfl,if_neg (by omega),aL.wT,if_neg kt]
 ·have:bb≠bV:=fun e=>by
   subst e;rcases hY with e2|e2
   ·subst e2;exact hg c kk hw hc
   ·rw [e2] at ry;cases ry
  rw [oH _ _ this];exact ry
 ·by_cases e:d=H.ar
  ·subst e;rw [bq.mL] at h1;cases h1;rcases hY with e2|e2
   ·subst e2;exact .inr ⟨c,kk,hw,hc⟩
   ·exact .inl e2
  ·rw [bq.mf e,S.ek d ao] at h1;cases h1
theorem yP{b o n m c:Nat}{vs:List Value}{bo:Nat}(hc:h.iU ⟨b,o,none⟩ 0 (m*bo)=some vs)(Q:Array Value->ab->Prop):bf P (Builtin.firstCells bo m (.slice (some ⟨b,o,none⟩) n c)) h Q=Q ⟨vs⟩ h:=JH hc Q
theorem Tz(S:cD P bj ρ H.get H.ar h)(cU:bj<=H.ar){t bo:Nat}{l dG rest:List Value}{b eT:Nat}(hs:cy P t=some bo)(hb:h b=none)(af:cV ρ l dG)(eJ:l.length+rest.length=eT*bo):
  cD P bj (ρ.ext H.ar b eT) (H.new (.cs true true t l)).get (H.new (.cs true true t l)).ar (h.put b ⟨.cells ⟨dG++rest⟩ t,true⟩)/\gu H ρ h (H.new (.cs true true t l)) (ρ.ext H.ar b eT) (h.put b ⟨.cells ⟨dG++rest⟩ t,true⟩):=
 Fh S (kk:=eT) (x:=.cs true true t l) (o:=⟨.cells ⟨dG++rest⟩ t,true⟩) cU hb ⟨_,true,dG,rest,rfl,fun _=>rfl,rfl,af.mono (bq.zB (S.ek _ (Nat.le_refl _))),(fun e=>by cases e),fun _=>⟨bo,hs,by simp only [List.size_toArray,List.length_append,af.length];exact eJ⟩⟩
theorem oJ(k:Nat):jv k dj=k:=by
 have:lK dj=true:=JV.2 (by unfold dj;omega);rw [Bu this];simp
theorem anh(S:cD P bj ρ H.get H.ar h)(cU:bj<=H.ar){t t2 el Ig bo bs:Nat}{ty:TypeId}{z:Value}(aj:P.underlying t=some (.slice el))(lk:P.underlying t2=some (.slice Ig))(hs:cy P el=some bo)(fv:bytesOf P el=some bs)(aH:zeroOf P el=some z)
  (aK:(Nat.ble 1 bo&&Nat.beq (ew z).length bo&&Nat.ble 1 bs)=true) {x y:Operand} {x' c8:Value} (aa:cA call e H (.app el bo bs x y)=some (v,H')) (h1:bw ρ (b5 e x) x') (h2:bw ρ (b5 e y) c8) (k:fU P bj ρ H h v H' K):
  @au P _ (Builtin.append_ ⟨[t,t2]⟩ ty ⟨[x',c8]⟩) h ⟨K⟩:=by
 simp only [Bool.and_eq_true] at aK;have oU:=gj aK.1.1;have rz:=gj aK.2;have ks:z.cells.size=bo:=by rw [<- Array.length_toList,<- tn];exact beq_eq aK.1.2
 simp only [cA] at aa;split at aa
 ·rename_i bV m c2 P0;rw [P0] at h2;have key:∀{kk:List Value->Option (Value×aL)},((match bV with
    | some ⟨b,o,none⟩=>qA H b o (m*bo)
    | _=>fun k=>cond (Nat.beq m 0) (k []) none) kk)=some (v,H')->∃vs ev a2 xW,c8=.slice a2 m xW/\kk vs=some (v,H')/\cV ρ vs ev/\vs.length=m*bo/\∀Q,bf P (Builtin.firstCells bo m (.slice a2 m xW)) h Q=Q ⟨ev⟩ h:=by
   intro kk hk;split at hk
   ·rename_i b o;generalize Ih:c8=Jo at h2;cases h2 with
    | sl o n fx al=>
     obtain ⟨vs,ev,an,az,aB,aX,_⟩:=zA S al hk;exact ⟨vs,ev,_,_,rfl,an,az,aB,fun Q=>yP aX Q⟩
   ·rename_i b7;have hk:cond (Nat.beq m 0) (kk []) none=some (v,H'):=hk;cases hm:Nat.beq m 0 with
    | false=>rw [hm] at hk;cases hk
    | true=>
     rw [hm,cond_true] at hk;have Ii:=beq_eq hm;subst Ii;have:∃a2 xW,c8=.slice a2 0 xW:=by cases h2<;>exact ⟨_,_,rfl⟩
     obtain ⟨a2,xW,rfl⟩:=this;refine ⟨[],[],a2,xW,rfl,hk,.nil,by simp,fun Q=> ?_⟩;cases a2 with
     | none=>rfl
     | some a=>
      show bf P (loadCells a (0*bo)) h Q=_;rw [Nat.zero_mul];rfl
  obtain ⟨new,new',a2,xW,rfl,vW,aI,C0,qq⟩:=key aa;clear key P0 h2 aa;have aa:=vW;clear vW;split at aa
  ·
   rename_i hex;rw [hex] at h1;cases h1;cases m with
   | zero=>
    cases aa;refine u4 aj lk hs fv aH ks oU rz qq (fun _=> ?_) (fun bY=>by omega);exact k.same S (.vS _ _)
   | succ m0=>
    simp only at aa;cases hc:(Nat.ble (m0+1) 200&&Nat.ble bs 1000) with
    | false=>rw [hc] at aa;cases aa
    | true=>
     rw [hc,cond_true,aL.qZ] at aa;cases aa;simp only [Bool.and_eq_true] at hc;refine u4 aj lk hs fv aH ks oU rz qq (fun hle=>by omega) (fun _=>⟨by have:=gj hc.1;omega,gj hc.2,[],fun Q=>rfl,fun eT P1 b hb rest al=> ?_⟩);obtain ⟨s1,s2⟩:=Tz S cU hs hb aI (rest:=rest) (eT:=eT) (by rw [C0,al,<- Nat.add_mul];congr 1;omega);have iK:=bw.sl (ρ:=ρ.ext H.ar b eT) 0 (m0+1) dj bq.mL;rw [oJ] at iK;have:=k _ _ _ s1 iK s2;simp only [List.nil_append,Nat.zero_add] at this ⊢;exact this
  ·rename_i c o len cap hex;rw [hex] at h1;rw [jH] at aa;cases hc:(Nat.ble (len+m) 200&&Nat.ble bs 1000) with
   | false=>rw [hc] at aa;cases aa
   | true=>
    rw [hc,cond_true] at aa;simp only [Bool.and_eq_true] at hc;have g1:=gj hc.1;have g2:=gj hc.2;cases h1 with
    | sl o n fx al=>
     rename_i b kk;cases pC:lK cap with
     | false=>
      rw [pC,cond_false] at aa;have gd:jv kk cap=cap:=yU pC;rw [gd];cases hle:Nat.ble (len+m) cap with
      | true=>
       rw [hle,cond_true] at aa;obtain ⟨H1,h1,an,az,aB,aX⟩:=BR S al aI aa;cases an;refine u4 aj lk hs fv aH ks oU rz qq (fun _=> ?_) (fun bY=>by have:=gj hle;omega);show oI h ((⟨b,o,none⟩:Addr).add (len*bo)) 0 new' _;rw [k5];refine aX _ ?_;have iK:=bw.sl (ρ:=ρ) o (len+m) cap al;rw [gd] at iK;exact k _ _ _ az iK aB
      | false=>
       rw [hle,cond_false] at aa;have gC:¬len+m<=cap:=fun h=>by rw [Nat.ble_eq_true_of_le h] at hle;cases hle
       obtain ⟨old,kQ,an,az,aB,aX,_⟩:=zA S al aa;rw [aL.qZ] at an;cases an;refine u4 aj lk hs fv aH ks oU rz qq (fun hle=>absurd hle gC) (fun _=>⟨g1,g2,kQ,fun Q=>yP aX Q,fun eT P1 bV hY rest P2=> ?_⟩);obtain ⟨s1,s2⟩:=Tz S cU hs hY (az.append aI) (rest:=rest) (eT:=eT) (by rw [List.length_append,aB,C0,P2,<- Nat.add_mul,<- Nat.add_mul];congr 1;omega);have iK:=bw.sl (ρ:=ρ.ext H.ar bV eT) 0 (len+m) dj bq.mL;rw [oJ] at iK;exact k _ _ _ s1 iK s2
     | true=>
      rw [pC,cond_true] at aa;split at aa
      ·rename_i bt cs aG;obtain ⟨b9,AG,eu,hb⟩:=S.blk c _ aG;rw [al] at eu;cases eu;obtain ⟨arr,fr,b2,rest,r1,r2,r3,gI,ih,ta⟩:=hb;have:=r2 rfl;subst this;obtain ⟨PY,D1,aca⟩:=ta rfl;have gd:jv kk cap=kk- (dj- cap):=Bu pC;have au6:cs.length+rest.length=arr.size:=by rw [<- Array.length_toList,r3,List.length_append,gI.length]
       cases dF:Nat.ble (o+(len+m)*bo) cs.length with
       | true=>
        rw [dF,cond_true] at aa;cases hd:(Nat.beq bt el&&Nat.ble cap dj&&Nat.beq o ((dj- cap)*bo)) with
        | false=>rw [hd] at aa;cases aa
        | true=>
         rw [hd,cond_true] at aa;simp only [Bool.and_eq_true] at hd;have d1:=beq_eq hd.1.1;have d2:=gj hd.1.2;have d3:=beq_eq hd.2;subst d1;rw [hs] at D1;cases D1;have d4:=gj dF;have hk:(dj- cap)+(len+m)<=kk:=by
          have:((dj- cap)+(len+m))*bo<=kk*bo:=by rw [Nat.add_mul,<- d3];omega
          exact Nat.le_of_mul_le_mul_right this (by omega)
         obtain ⟨H1,h1,an,az,aB,aX⟩:=BR S al aI aa;cases an;rw [gd];refine u4 aj lk hs fv aH ks oU rz qq (fun _=> ?_) (fun bY=>by omega);show oI h ((⟨b,o,none⟩:Addr).add (len*bo)) 0 new' _;rw [k5];refine aX _ ?_;have iK:=bw.sl (ρ:=ρ) o (len+m) cap al;rw [gd] at iK;exact k _ _ _ az iK aB
       | false=>
        rw [dF,cond_false] at aa;cases hd:(Nat.beq o 0&&Nat.beq cs.length (len*bo)&&Nat.ble H.cg c&&Nat.beq cap dj&&Nat.beq bt el&&qa new) with
        | false=>rw [hd] at aa;cases aa
        | true=>
         rw [hd,cond_true,aL.nX,aL.qZ] at aa;simp only [Bool.and_eq_true] at hd;obtain ⟨⟨⟨⟨⟨d1,d2⟩,d3⟩,d4⟩,d5⟩,d6⟩:=hd;have d1:=beq_eq d1;have d2:=beq_eq d2;have d4:=beq_eq d4;have d5:=beq_eq d5;subst d1;subst d4;subst d5;rw [hs] at D1;cases D1;have hw:gH H c:=GR d3 aG rfl;cases aa;rw [oJ];have kV:b2.length=len*bo:=by rw [gI.length,d2]
         refine u4 aj lk hs fv aH ks oU rz qq (fun hle=> ?_) (fun bY=> ?_)
         ·
          show oI h ((⟨b,0,none⟩:Addr).add (len*bo)) 0 new' _;rw [k5,Nat.zero_add];have YR:len*bo+new'.length<=arr.size:=by
           rw [aI.length,C0,aca,<- Nat.add_mul];exact Nat.mul_le_mul_right _ hle
          obtain ⟨bR⟩:=arr;simp only at r3;subst r3;refine SF new' (b2++rest) 0 h r1 (by simpa using YR) (by rw [aI.YO];exact d6) ?_;rw [Nat.add_zero];have Ie:hv (len*bo) new' (b2++rest)=(b2++new')++rest.drop new'.length:=by
           unfold hv;rw [<- kV,List.take_left,List.drop_append];simp
          rw [Ie];have ax:Bk P (ρ.ext H.ar b kk) kk (.cs true true bt (cs++new)) (some ⟨.cells ⟨(b2++new')++rest.drop new'.length⟩ bt (0,0),true⟩):=by
           refine ⟨_,true,b2++new',_,rfl,fun _=>rfl,rfl,(gI.append aI).mono (bq.zB (S.ek _ (Nat.le_refl _))),(fun e=>by cases e),fun _=>⟨bo,hs,?_⟩⟩;rw [<- aca];simp only [List.size_toArray,List.length_append,List.length_drop] at YR ⊢;omega
          obtain ⟨s1,s2⟩:=Ut S cU aG hw rfl al (.inl rfl) ax;have iK:=bw.sl (ρ:=ρ.ext H.ar b kk) 0 (len+m) dj bq.mL;rw [oJ] at iK;exact k _ _ _ s1 iK s2
         ·
          have hold:h.iU ⟨b,0,none⟩ 0 (len*bo)=some b2:=by
           rw [St r1 _ _ (by rw [<- au6,d2];omega),r3];simp [<- kV]
          refine ⟨g1,g2,b2,fun Q=>yP hold Q,fun eT P1 bV hY ZP P2=> ?_⟩;have ax:Bk P (ρ.ext H.ar bV eT) eT (.cs true true bt (cs++new)) (some ⟨.cells ⟨b2++new'++ZP⟩ bt (0,0),true⟩):=by
           refine ⟨_,true,b2++new',ZP,rfl,fun _=>rfl,rfl,(gI.append aI).mono (bq.zB (S.ek _ (Nat.le_refl _))),(fun e=>by cases e),fun _=>⟨bo,hs,?_⟩⟩;simp only [List.size_toArray,List.length_append,kV,aI.length,C0,P2];have de:len+m+(eT- (len+m))=eT:=Nat.add_sub_cancel' P1;rw [<- Nat.add_mul,<- Nat.add_mul,de]
          obtain ⟨s1,s2⟩:=Ut S cU aG hw rfl al (.inr hY) ax;have iK:=bw.sl (ρ:=ρ.ext H.ar bV eT) 0 (len+m) dj bq.mL;rw [oJ] at iK;exact k _ _ _ s1 iK s2
      ·cases aa
  ·cases aa
 ·cases aa
end
def om(P:Program)(t:TypeId)(l:List Value):Value:=cond (vg ((P.underlying t).getD .invalid)) (.agg ⟨l⟩) (l.headD undef)
section
variable{P:Program}{h:ab}
theorem S9:∀(a fh b b9:List Value) (r:Bool),a.length=fh.length->pA (a++b) (fh++b9)=some r->∃r1,pA a fh=some r1/\(r1=false->r=false)/\(r1=true->pA b b9=some r)
 | [],[],b,b9,r,_,h=>⟨true,rfl,(fun h=>by cases h),fun _=>h⟩
 | x::a,y::fh,b,b9,r,af,h=>by
  simp only [List.cons_append,pA] at h ⊢;cases hb:xA x y with
  | none=>rw [hb] at h;cases h
  | some c=>
   rw [hb] at h;cases c with
   | true=>exact S9 a fh b b9 r (by simpa using af) h
   | false=>simp only [Option.some.injEq] at h;exact ⟨false,rfl,fun _=>h.symm,fun h=>(by cases h)⟩
 | [],_::_,_,_,_,af,_=>by cases af
 | _::_,[],_,_,_,af,_=>by cases af
theorem BF{t:TypeId}{d:TypeDesc}(aj:P.underlying t=some d)(hd:vg d=true)(l:List Value):om P t l=.agg ⟨l⟩:=by simp [om,aj,hd]
theorem K7{t:TypeId}{d:TypeDesc}(aj:P.underlying t=some d)(hd:vg d=false)(v:Value)(l:List Value):om P t (v::l)=v:=by simp [om,aj,hd]
theorem Sv{t n d:Nat}(aP:ra P d t=some n){cs:List Value}{o:Nat}(af:o+n<=cs.length)(Q:Value->ab->Prop):bf P (part t ⟨cs⟩ o) h Q=Q (om P t ((cs.drop o).take n)) h:=by
 cases d with
 | zero=>cases aP
 | succ d=>
  rw [ra] at aP;have one:∀d0,P.underlying t=some d0->vg d0=false->gq P t=some none->n=1->bf P (part t ⟨cs⟩ o) h Q=Q (om P t ((cs.drop o).take n)) h:=fun d0 h1 h2 h3 h4=>by
   subst h4;rw [Bt Q _ h3];have bY:o<cs.length:=by omega
   rw [List.getElem?_eq_getElem bY,List.drop_eq_getElem_cons bY,List.take_succ_cons,K7 h1 h2]
  have many:∀d0,P.underlying t=some d0->vg d0=true->gq P t=some (some n)->bf P (part t ⟨cs⟩ o) h Q=Q (om P t ((cs.drop o).take n)) h:=fun d0 h1 h2 h3=>by
   rw [Bt Q _ h3,BF h1 h2]
  have agg:∀m,cy P t=some m->((∃fs,P.underlying t=some (.struct fs))\/∃k el,P.underlying t=some (.array k el))->gq P t=some (some m):=fun m hm hu=>by
   unfold cy at hm;cases hi:P.info? t with
   | none=>rw [hi] at hm;cases hm
   | some i=>
    rw [hi] at hm;cases hm;unfold gq;rcases hu with ⟨fs,hu⟩|⟨k,el,hu⟩<;>rw [hu,hi]
  split at aP
  ·rename_i k hu;exact one _ hu rfl (by simp [gq,hu]) (by cases aP;rfl)
  ·rename_i fs hu;split at aP
   ·rename_i m hm;cases cj:P.stoodInHeld t with
    | true=>rw [cj] at aP;cases aP
    | false=>
     rw [cj,cond_false] at aP;split at aP
     ·rename_i n0 hj;cases hb:Nat.beq n0 m with
      | false=>rw [hb] at aP;cases aP
      | true=>rw [hb,cond_true] at aP;cases aP;have:=beq_eq hb;subst this;exact many _ hu rfl (agg _ hm (.inl ⟨fs,hu⟩))
     ·cases aP
   ·cases aP
  ·rename_i k el hu;split at aP
   ·rename_i n0 db m h1 h2 h3;cases hb:(Nat.beq n0 db&&Nat.beq (k*n0) m) with
    | false=>rw [hb] at aP;cases aP
    | true=>
     rw [hb,cond_true] at aP;simp only [Bool.and_eq_true] at hb;cases aP;have:=beq_eq hb.2;subst this;exact many _ hu rfl (agg _ h3 (.inr ⟨k,el,hu⟩))
   ·cases aP
  ·cases aP
def zl(P:Program)(d:Nat){α:Type}(ty:α->TypeId)(off:α->Nat):List α->Nat->Nat->Prop
 | [],o,m=>o=m
 | p::bF,o,m=>∃n,ra P d (ty p)=some n/\off p=o/\zl P d ty off bF (o+n) m
theorem Ta{d:Nat}{α:Type}{ty:α->TypeId}{off:α->Nat}:∀(bF:List α) (o m:Nat),zl P d ty off bF o m->o<=m
 | [],o,m,h=>Nat.le_of_eq h
 | p::bF,o,m,⟨n,_,_,h⟩=>by have:=Ta bF _ _ h;omega
theorem Tb{α:Type}{D d:Nat}(ty:α->TypeId)(off:α->Nat)(a b:List Value)(m:Nat)(aA:a.length=m)(hb:b.length=m)(F:α->Option Bool×Unit->Sem (ForInStep (Option Bool×Unit)))
  (bO:∀(t n:Nat) (x y:List Value) (r:Bool),ra P d t=some n->x.length=n->y.length=n->pA x y=some r->∀Q,bf P (Op.equalIn D t (om P t x) (om P t y)) h Q=Q r h):
  ∀(bF:List α) (o:Nat) (r:Bool),zl P d ty off bF o m->
   (∀p∈bF,∀s,F p s=(do let x <- part (ty p) ⟨a⟩ (off p);let y <- part (ty p) ⟨b⟩ (off p);let r <- Op.equalIn D (ty p) x y;if (!r)=true then pure (.done (some false,())) else pure (.yield (none,()))))->
   pA (a.drop o) (b.drop o)=some r->
   ∀Q,bf P (forIn bF ((none,()):Option Bool×Unit) F) h Q=Q (if r then none else some false,()) h:=by
 intro bF
 induction bF with
 | nil=>
  intro o r aK _ al Q;have aK:o=m:=aK;rw [List.drop_of_length_le (by omega),List.drop_of_length_le (by omega)] at al;cases al;rfl
 | cons p bF aN=>
  intro o r aK eM al Q;obtain ⟨n,h1,h2,h3⟩:=aK;have hle:=Ta _ _ _ h3;rw [List.forIn_cons,eM p (by simp)];simp only [aV];rw [h2,Sv h1 (by omega),Sv h1 (by omega)];have lx:a.drop o=(a.drop o).take n++a.drop (o+n):=by rw [<- List.drop_drop,List.take_append_drop]
  have pS:b.drop o=(b.drop o).take n++b.drop (o+n):=by rw [<- List.drop_drop,List.take_append_drop]
  rw [lx,pS] at al;obtain ⟨r1,an,az,aB⟩:=S9 _ _ _ _ _ (by simp;omega) al;rw [bO _ n _ _ r1 h1 (by simp;omega) (by simp;omega) an];cases r1 with
  | false=>
   have:=az rfl;subst this;rfl
  | true=>
   simp only [Bool.not_true,Bool.false_eq_true,if_false,bh];exact aN (o+n) r h3 (fun q aE=>eM q (by simp [aE])) (aB rfl) Q
theorem Tc{d:Nat}:∀(fs:List Field) (o n:Nat),BQ (ra P d) fs o=some n->zl P d Field.type Field.offset fs o n/\∀f∈fs,f.name≠ "_"
 | [],o,n,h=>by simp only [BQ,Option.some.injEq] at h;exact ⟨h,by simp⟩
 | f::fs,o,n,h=>by
  simp only [BQ] at h;split at h
  ·rename_i k hk;cases hb:(Nat.beq f.offset o&&f.name != "_") with
   | false=>rw [hb] at h;cases h
   | true=>
    rw [hb,cond_true] at h;simp only [Bool.and_eq_true,bne_iff_ne,ne_eq] at hb;obtain ⟨an,az⟩:=Tc fs _ _ h;refine ⟨⟨k,hk,beq_eq hb.1,an⟩,fun g aG=> ?_⟩;rcases List.mem_cons.1 aG with e|e
    ·subst e;exact hb.2
    ·exact az g e
  ·cases h
theorem SB{d el n:Nat}(ao:ra P d el=some n):∀(k i:Nat),zl P d (fun _=>el) (fun i=>i*n) (List.range' i k) (i*n) ((i+k)*n)
 | 0,i=>by simp [zl]
 | k+1,i=>by
  rw [List.range'_succ];refine ⟨n,ao,rfl,?_⟩;have:=SB ao k (i+1);rw [Nat.succ_mul] at this;rw [show (i+(k+1))=(i+1+k) by omega];exact this
theorem adi:∀(d D:Nat),d<=D->∀(t n:Nat) (x y:List Value) (r:Bool),ra P d t=some n->x.length=n->y.length=n->pA x y=some r->∀Q,bf P (Op.equalIn D t (om P t x) (om P t y)) h Q=Q r h:=by
 intro d
 induction d with
 | zero=>intro D _ t n x y r aP;cases aP
 | succ d aN=>
  intro D du t n x y r aP aa ax al Q;obtain ⟨D,rfl⟩:∃l5,D=l5+1:=⟨D- 1,by omega⟩;have bO:=aN D (by omega);rw [ra] at aP;rw [Op.equalIn];simp only [aV,df];have one:∀d0,P.underlying t=some d0->vg d0=false->n=1->∃u w,x=[u]/\y=[w]/\om P t x=u/\om P t y=w/\xA u w=some r:=fun d0 h1 h2 h3=>by
   subst h3
   match x,y,aa,ax with
   | [u],[w],_,_=>
    refine ⟨u,w,rfl,rfl,K7 h1 h2 _ _,K7 h1 h2 _ _,?_⟩;simp only [pA] at al;cases hb:xA u w with
    | none=>rw [hb] at al;cases al
    | some c=>rw [hb] at al;cases c<;>simp at al<;>rw [al]
  split at aP
  ·rename_i k hu;obtain ⟨u,w,rfl,rfl,e1,e2,e3⟩:=one _ hu rfl (by cases aP;rfl);rw [e1,e2,hu];unfold xA at e3;split at e3
   ·rename_i k1 a bX b;cases hs:xh k1 bX with
    | false=>rw [hs] at e3;cases e3
    | true=>
     rw [hs,cond_true,F0] at e3;cases e3;have:=KD hs;subst this;simp only [if_true];rfl
   ·cases e3
  ·rename_i fs hu;split at aP
   ·rename_i m hm;cases cj:P.stoodInHeld t with
    | true=>rw [cj] at aP;cases aP
    | false=>
     rw [cj,cond_false] at aP;split at aP
     ·rename_i n0 hj;cases hb:Nat.beq n0 m with
      | false=>rw [hb] at aP;cases aP
      | true=>
       rw [hb,cond_true] at aP;cases aP;obtain ⟨an,az⟩:=Tc _ _ _ hj;rw [BF hu rfl,BF hu rfl,hu];simp only [aV,mJ,cj,Bool.false_eq_true,if_false];rw [<- Array.forIn_toList,Tb (d:=d) (D:=D) Field.type Field.offset x y n aa ax _ bO fs.toList 0 r an (fun f aP s=>by simp [az f aP]) al];cases r<;>rfl
     ·cases aP
   ·cases aP
  ·rename_i k el hu;split at aP
   ·rename_i n0 db m h1 h2 h3;cases hb:(Nat.beq n0 db&&Nat.beq (k*n0) m) with
    | false=>rw [hb] at aP;cases aP
    | true=>
     rw [hb,cond_true] at aP;simp only [Bool.and_eq_true] at hb;cases aP;have e1:=beq_eq hb.1;subst e1;rw [BF hu rfl,BF hu rfl,hu];simp only [aV,gL,h2];rw [Std.Legacy.Range.forIn_eq_forIn_range'];have an:=SB (P:=P) h1 k 0;rw [Nat.zero_mul,Nat.zero_add] at an;have e0:List.range' 0 (Std.Legacy.Range.size [:k]) 1=List.range' 0 k:=by simp [Std.Legacy.Range.size]
     show bf P (forIn (List.range' 0 (Std.Legacy.Range.size [:k]) 1) _ _) h _=_;rw [e0,Tb (d:=d) (D:=D) (fun _=>el) (fun i=>i*n0) x y (k*n0) aa ax _ bO _ 0 r an (fun f aP s=>rfl) al];cases r<;>rfl
   ·cases aP
  ·cases aP
theorem VB{ρ:bq}:∀{a fh b b9:List Value} {r:Bool},cV ρ a fh->cV ρ b b9->pA a b=some r->pA fh b9=some r
 | [],_,[],_,r,.nil,.nil,h=>h
 | [],_,_::_,_,r,_,_,h=>by cases h
 | _::_,_,[],_,r,_,_,h=>by cases h
 | x::a,_,y::b,_,r,.cons aa aA,.cons ax hb,h=>by
  simp only [pA] at h ⊢;cases aI:xA x y with
  | none=>rw [aI] at h;cases h
  | some c=>
   have:∃j m k n,x=.int j m/\y=.int k n:=by
    unfold xA at aI;split at aI
    ·exact ⟨_,_,_,_,rfl,rfl⟩
    ·cases aI
   obtain ⟨j,m,k,n,rfl,rfl⟩:=this;cases aa;cases ax;rw [aI] at h ⊢;cases c with
   | true=>exact VB aA hb h
   | false=>exact h
section
variable{bj:Nat}{ρ:bq}{H H':aL}{call:FuncId->List Value->aL->Option (Value×aL)}{e:cJ}{v:Value}{K:Value->ab->Prop}
theorem SS(S:cD P bj ρ H.get H.ar h){op:BinOp}{t n:TypeId}(aj:FZ P t=some n){x y:Operand}{x' c8:Value}(aa:cA call e H (.bin op (.flat n) x y)=some (v,H'))(h1:bw ρ (b5 e x) x')(h2:bw ρ (b5 e y) c8)(k:fU P bj ρ H h v H' K):
  @au P _ (cr op t x y x' c8) h ⟨K⟩:=by
 unfold FZ at aj;cases aG:P.eqGuardType P.depth t with
 | true=>rw [aG] at aj;cases aj
 | false=>
  rw [aG,cond_false] at aj;cases aA:vg ((P.underlying t).getD .invalid) with
  | false=>rw [aA] at aj;cases aj
  | true=>
   rw [aA,cond_true] at aj;simp only [cA,vv] at aa;split at aa
   ·rename_i a b jW hX;rw [jW] at h1;rw [hX] at h2;cases af:(Nat.beq a.length n&&Nat.beq b.length n) with
    | false=>rw [af] at aa;cases aa
    | true=>
     rw [af,cond_true] at aa;simp only [Bool.and_eq_true] at af;generalize au7:x'=ayV at h1;generalize Ih:c8=Jo at h2;cases h1 with
     | agg Ij=>
      rename_i fh;cases h2 with
      | agg ZQ=>
       rename_i b9;split at aa
       ·rename_i r al;have key:∀Q:Bool->ab->Prop,bf P (Op.equal t (.agg ⟨fh⟩) (.agg ⟨b9⟩)) h Q=Q r h:=fun Q=>by
         have:=adi (P:=P) (h:=h) 6 10000 (by omega) t n fh b9 r aj (by rw [Ij.length];exact beq_eq af.1) (by rw [ZQ.length];exact beq_eq af.2) (VB Ij ZQ al) Q;have e1:∀l,om P t l=.agg ⟨l⟩:=fun l=>by simp [om,aA]
         rw [e1,e1] at this;exact this
        have bk:∀(o:BinOp) (Q:Unit->ab->Prop),bf P (eqGuard o t x y (.agg ⟨fh⟩) (.agg ⟨b9⟩)) h Q=Q () h:=fun o Q=>by
         unfold eqGuard;cases o<;>simp [bh,aV,mJ,aG]
        split at aa
        ·have:=nU aa;cases this;simp only [au,cr,aV,bk,binOp];simp only [aV,key,bh];exact k.same S (.bool _)
        ·have:=nU aa;cases this;simp only [au,cr,aV,bk,binOp];simp only [aV,key,bh];exact k.same S (.bool _)
        ·cases aa
       ·cases aa
   ·cases aa
end
end
def q1(P:Program)(main:Bool){ah:Type}(Sy:Sys ah)(J:ah->Prop)(bj:Nat)(call:FuncId->List Value->aL->Option (Value×aL)):Prop:=
 ∀f b8 v H H',call f b8 H=some (v,H')->∀ρ h qD s,cD P bj ρ H.get H.ar h->cV ρ b8 qD->bj<=H.ar->J s->
  bP P f=true/\bI P main Sy f ⟨qD⟩ s h fun ai h' bQ=>J ai/\∃bA,cD P bj bA H'.get H'.ar h'/\bw bA v bQ/\gu H ρ h H' bA h'
section
variable{P:Program}{main:Bool}{ah:Type}{Sy:Sys ah}{J:ah->Prop}{bj:Nat}{ρ:bq}{H H':aL}{h:ab}{call:FuncId->List Value->aL->Option (Value×aL)}{E:cJ}{e:Env}{v:Value}{b:bn}{s:ah}{d:List Deferred}
 {N:Env->List Deferred->ah->ab->Prop}
theorem Fi{b8:List Operand}(aA:∀x∈b8,bw ρ (b5 E x) (aS e x)):cV ρ (Ah E b8) (b8.map (aS e)):=by
 induction b8 with
 | nil=>exact .nil
 | cons a b8 aN=>exact .cons (aA a (by simp)) (aN fun x aa=>aA x (by simp [aa]))
theorem vc{o:Option Operand}(aQ:∀x∈o.toList,bw ρ (b5 E x) (aS e x)):ob ρ E (aS e) o:=akm aQ
theorem J8{o:Oper}(aa:cA call E H (q0 P o)=some (v,H'))(S:cD P bj ρ H.get H.ar h)(cU:bj<=H.ar)(fL:J s)(hC:q1 P main Sy J bj call)(bO:∀x∈(q0 P o).dq,bw ρ (b5 E x) (aS e x))
  (uR:∀ai bA h' bQ,J ai->cD P bj bA H'.get H'.ar h'->bw bA v bQ->gu H ρ h H' bA h'->N (cv e o.dst bQ) d ai h'):b3 P main Sy b o e d s h N:=by
 have ok:fU P bj ρ H h v H' fun bQ h'=>N (cv e o.dst bQ) d s h':=fun bA h' bQ a1 a2 a3=>uR s bA h' bQ fL a1 a2 a3;generalize bg:q0 P o=xo at aa bO;unfold q0 at bg;split at bg
 ·rename_i x aF;subst bg;simp only [b3,aF,bE];simp only [cA,Option.some.injEq,Prod.mk.injEq] at aa;obtain ⟨rfl,rfl⟩:=aa;exact ok.same S (bO x (by simp [dr.dq]))
 ·rename_i x aF;subst bg;simp only [b3,aF,bE];simp only [cA,Option.some.injEq,Prod.mk.injEq] at aa;obtain ⟨rfl,rfl⟩:=aa;exact ok.same S (bO x (by simp [dr.dq]))
 ·rename_i c x y aF;subst bg;simp only [b3,aF,bE];exact akf S aa (bO c (by simp [dr.dq])) (bO x (by simp [dr.dq])) (bO y (by simp [dr.dq])) ok
 ·rename_i t aF;simp only [b3,aF];split at bg
  ·rename_i z aH;cases aK:lL (ew z) with
   | false=>rw [aK] at bg;subst bg;cases aa
   | true=>
    rw [aK,cond_true] at bg;cases lh:CW t with
    | true=>rw [lh,cond_true] at bg;subst bg;cases aa
    | false=>
     rw [lh,cond_false] at bg;subst bg;have:=ahf S cU aH aK aa ok;simp only [oi,lh];exact this
  ·subst bg;cases aa
 ·rename_i t x aF;simp only [b3,aF,bE];split at bg
  ·subst bg;exact am5 S cU aa (bO x (by simp [dr.dq])) ok
  ·subst bg;cases aa
 ·rename_i t bF aF;simp only [b3,aF];split at bg
  ·rename_i z l aH af;cases aK:(lL (ew z)&&Fg P t) with
   | false=>rw [aK] at bg;subst bg;cases aa
   | true=>
    rw [aK,cond_true] at bg;subst bg;simp only [Bool.and_eq_true] at aK;exact ahi S aH af aK.2 aK.1 aa (fun x aa=>bO x aa) ok
  ·subst bg;cases aa
 ·rename_i t n bF aF;simp only [b3,aF];split at bg
  ·rename_i el aj;split at bg
   ·rename_i z m aH hs;cases aK:(lL (ew z)&&Nat.beq (ew z).length m&&Nat.ble 1 m&&Nat.ble (n*m) 10000) with
    | false=>rw [aK] at bg;subst bg;cases aa
    | true=>rw [aK,cond_true] at bg;subst bg;exact ac7 S cU aj aH hs aK aa (fun x aa=>bO x aa) ok
   ·subst bg;cases aa
  ·subst bg;cases aa
 ·rename_i t x aF;simp only [b3,aF,bE];split at bg
  ·rename_i aj;subst bg;exact am6 S aj aa (bO x (by simp [dr.dq])) ok
  ·rename_i n aj;subst bg;exact am7 S aj aa (bO x (by simp [dr.dq])) ok
  ·subst bg;cases aa
 ·rename_i t x y aF;simp only [b3,aF,bE];have hd:∀v,cv e o.dst v=cv e o.dst v:=fun _=>rfl;split at bg
  ·rename_i n aj;subst bg;exact apL S aj aa (bO x (by simp [dr.dq])) (bO y (by simp [dr.dq])) ok
  ·subst bg;cases aa
 ·rename_i x aF;subst bg;simp only [b3,aF,bE];have:=am8 S aa (bO x (by simp [dr.dq])) ok;refine tl (K:=⟨fun ar h=>∃bQ,ar=.value bQ/\N (cv e o.dst bQ) d s h⟩) (fun ar h q=> ?_) this;obtain ⟨bQ,e1,e2⟩:=q;subst e1;exact e2
 ·rename_i op t x y _ aF;simp only [b3,aF,bE];split at bg
  ·rename_i kk hk;subst bg;have h1:=bO x (by simp [dr.dq]);have h2:=bO y (by simp [dr.dq]);unfold XZ at hk;split at hk
   ·cases hk;exact adZ S aa h1 h2 ok
   ·rename_i aj;cases hk;exact adv S aj aa h1 h2 ok
   ·rename_i aj;cases hk;exact ac6 S aa h1 h2 ok
   ·rename_i el aj;cases hk;exact adg S aj aa h1 h2 ok
   ·split at hk
    ·rename_i n aP;cases hk;exact SS S aP aa h1 h2 ok
    ·cases hk
   ·split at hk
    ·rename_i n aP;cases hk;exact SS S aP aa h1 h2 ok
    ·cases hk
   ·cases hk
  ·subst bg;cases aa
 ·rename_i op t x aF;subst bg;simp only [b3,aF,bE];exact apM S aa (bO x (by simp [dr.dq])) ok
 ·rename_i aBE t x aF;simp only [b3,aF,bE];split at bg
  ·rename_i j kk hs aj;subst bg;have aI:=bO x (by simp [dr.dq]);obtain ⟨k0,n0,e0⟩:=adw aa aI;have:=akg S hs aj aa aI ok;rw [e0] at this ⊢;exact this
  ·subst bg;cases aa
 ·rename_i t x aF;simp only [b3,aF,bE];split at bg
  ·subst bg;cases aa
  ·rename_i Bd b7 aj;subst bg;exact am9 S aj (fun ms e0=>by subst e0;exact b7 _ rfl) aa (bO x (by simp [dr.dq])) ok
  ·subst bg;cases aa
 ·rename_i f xs kZ aF;subst bg;simp only [b3,aF];simp only [cA,Option.some.injEq,Prod.mk.injEq] at aa;obtain ⟨rfl,rfl⟩:=aa;exact ok.same S (.func f (Fi fun x aa=>bO x (by simp only [dr.dq,List.mem_append];exact .inl aa)) (Fi fun x aa=>bO x (by simp only [dr.dq,List.mem_append];exact .inr aa)))
 ·rename_i t aF;subst bg;simp only [b3,aF,Option.map_none];exact ahg S cU aa ok
 ·rename_i t x y aF;simp only [b3,aF,bE];split at bg
  ·rename_i el aj;split at bg
   ·rename_i z m bs aH hs hb;cases aK:(lL (ew z)&&Nat.beq (ew z).length m&&Nat.ble 1 m) with
    | false=>rw [aK] at bg;subst bg;cases aa
    | true=>rw [aK,cond_true] at bg;subst bg;exact ad1 S cU aj aH hs hb aK aa (bO x (by simp [dr.dq])) (bO y (by simp [dr.dq])) ok
   ·subst bg;cases aa
  ·subst bg;cases aa
 ·rename_i t x lo hi bB aF;simp only [b3,aF,bE];split at bg
  ·rename_i aj;cases bB with
   | some _=>subst bg;cases aa
   | none=>
    subst bg;simp only [Option.map_none];exact anf S aj aa (bO x (by simp [dr.dq])) (vc fun y ax=>bO y (by simp only [dr.dq,List.mem_cons,List.mem_append];exact .inr (.inl ax))) (vc fun y ax=>bO y (by simp only [dr.dq,List.mem_cons,List.mem_append];exact .inr (.inr ax))) ok
  ·rename_i el aj;split at bg
   ·rename_i n hs;cases aK:((hi.isSome||bB.isNone)&&Nat.ble 1 n) with
    | false=>rw [aK] at bg;subst bg;cases aa
    | true=>
     rw [aK,cond_true] at bg;subst bg;rw [Bool.and_eq_true] at aK;exact apN S aj hs (gj aK.2) aK.1 aa (bO x (by simp [dr.dq])) (vc fun y ax=>bO y (by simp only [dr.dq,List.mem_cons,List.mem_append];exact .inr (.inl ax))) (vc fun y ax=>bO y (by simp only [dr.dq,List.mem_cons,List.mem_append];exact .inr (.inr (.inl ax)))) (vc fun y ax=>bO y (by simp only [dr.dq,List.mem_cons,List.mem_append];exact .inr (.inr (.inr ax)))) ok
   ·subst bg;cases aa
  ·rename_i n el aj;split at bg
   ·rename_i m hs;cases aK:((hi.isSome||bB.isNone)&&Nat.ble n 1000000) with
    | false=>rw [aK] at bg;subst bg;cases aa
    | true=>
     rw [aK,cond_true] at bg;subst bg;rw [Bool.and_eq_true] at aK;exact ang S aj hs aK.1 aK.2 aa (bO x (by simp [dr.dq])) (vc fun y ax=>bO y (by simp only [dr.dq,List.mem_cons,List.mem_append];exact .inr (.inl ax))) (vc fun y ax=>bO y (by simp only [dr.dq,List.mem_cons,List.mem_append];exact .inr (.inr (.inl ax)))) (vc fun y ax=>bO y (by simp only [dr.dq,List.mem_cons,List.mem_append];exact .inr (.inr (.inr ax)))) ok
   ·subst bg;cases aa
  ·subst bg;cases aa
 ·rename_i t x i aF;simp only [b3,aF,bE];split at bg
  ·rename_i fs aj;split at bg
   ·rename_i f aP;split at bg
    ·rename_i m hs;subst bg;exact anb S aj aP hs aa (bO x (by simp [dr.dq])) ok
    ·subst bg;cases aa
   ·subst bg;cases aa
  ·subst bg;cases aa
 ·rename_i t x y aF;simp only [b3,aF,bE];split at bg
  ·rename_i el aj;split at bg
   ·rename_i n hs;subst bg;exact anc S aj hs aa (bO x (by simp [dr.dq])) (bO y (by simp [dr.dq])) ok
   ·subst bg;cases aa
  ·rename_i n el aj;split at bg
   ·rename_i m hs;subst bg;exact akk S aj hs aa (bO x (by simp [dr.dq])) (bO y (by simp [dr.dq])) ok
   ·subst bg;cases aa
  ·subst bg;cases aa
 ·rename_i t x y aF;simp only [b3,aF,bE];split at bg
  ·rename_i aj;subst bg;exact ane S aj aa (bO x (by simp [dr.dq])) (bO y (by simp [dr.dq])) ok
  ·rename_i n el aj;split at bg
   ·rename_i aA;split at bg
    ·rename_i m hs;subst bg;exact WV S aj hs (ag:=false) (by simpa using aA) aa (bO x (by simp [dr.dq])) (bO y (by simp [dr.dq])) ok
    ·subst bg;cases aa
   ·rename_i m aA;subst bg;have hs:cy P el=some m:=by
     unfold gq at aA;unfold cy;split at aA
     ·cases aA
     ·split at aA
      ·rename_i i hi;cases aA;rw [hi];rfl
      ·cases aA
     ·split at aA
      ·rename_i i hi;cases aA;rw [hi];rfl
      ·cases aA
     ·cases aA
    exact WV S aj hs (ag:=true) (by simpa using aA) aa (bO x (by simp [dr.dq])) (bO y (by simp [dr.dq])) ok
   ·subst bg;cases aa
  ·subst bg;cases aa
 ·rename_i t x y kk aF;simp only [b3,aF,bE];split at bg
  ·rename_i ov el aj;split at bg
   ·rename_i str z hk aH;cases aK:B9 z with
    | false=>rw [aK] at bg;subst bg;cases aa
    | true=>rw [aK,cond_true] at bg;subst bg;exact aeJ S aj hk aH aK aa (bO x (by simp [dr.dq])) (bO y (by simp [dr.dq])) ok
   ·subst bg;cases aa
  ·subst bg;cases aa
 ·rename_i t x y z aF;simp only [b3,aF,bE];split at bg
  ·rename_i ov el aj;split at bg
   ·rename_i str hk;subst bg;exact ahj S aj hk aa (bO x (by simp [dr.dq])) (bO y (by simp [dr.dq])) (bO z (by simp [dr.dq])) ok
   ·subst bg;cases aa
  ·subst bg;cases aa
 ·rename_i x i aF;subst bg;simp only [b3,aF,bE];exact ana S aa (bO x (by simp [dr.dq])) ok
 ·rename_i f b8 dN aF;subst bg;simp only [b3,aF];simp only [cA] at aa;obtain ⟨c1,c2⟩:=hC f _ _ _ _ aa ρ h _ s S (Fi fun x aa=>bO x aa) cU fL;exact .inl ⟨c1,bI.mono (fun ai h' bQ ⟨an,bA,az,aB,aX⟩=>uR ai bA h' bQ an az aB aX) c2⟩
 ·rename_i x b8 dN b7 aF;subst bg;have asx:∀f,x≠.func f:=fun f e0=>b7 f e0;have vU:=bO x (by simp [dr.dq]);have Ij:=Fi (e:=e) (fun y ax=>bO y (by simp only [dr.dq,List.mem_cons];exact .inr ax));have:b3 P main Sy b o e d s h N=@bE _ _ (aS e x) ⟨fun v=>@au P _ (sm v ((b8.toList.map (aS e)).toArray)) h ⟨fun ar h=>@ri P main _ Sy o.dst e d s ⟨N⟩ ar h⟩⟩:=by
   cases x with
   | func f=>exact absurd rfl (asx f)
   | _=>simp only [b3,aF]
  rw [this];simp only [bE];simp only [cA] at aa;split at aa
  ·rename_i f a c he;rw [he] at vU;generalize au7:aS e x=ayV at vU;cases vU with
   | func f aA hc=>
    obtain ⟨c1,c2⟩:=hC f _ _ _ _ aa ρ h _ s S (aA.append (Ij.append hc)) cU fL;rw [Bs (K:=⟨fun ar h=>@ri P main _ Sy o.dst e d s ⟨N⟩ ar h⟩) c1];have e1:∀(p q r:List Value),((⟨p⟩:Array Value)++q.toArray++⟨r⟩)=⟨p++(q++r)⟩:=fun p q r=>by apply Array.toList_inj.1;simp
    rw [e1];exact bI.mono (fun ai h' bQ ⟨an,bA,az,aB,aX⟩=>uR ai bA h' bQ an az aB aX) c2
  ·cases aa
 ·rename_i x t aF;simp only [b3,aF];split at bg
  ·rename_i aj;subst bg;exact aki S aj aa (bO x (by simp [dr.dq])) ok
  ·rename_i el aj;subst bg;exact akh S aj aa (bO x (by simp [dr.dq])) ok
  ·rename_i n el aj;subst bg;simp only [cA,Option.some.injEq,Prod.mk.injEq] at aa;obtain ⟨rfl,rfl⟩:=aa;simp only [au,Builtin.len_,List.map_cons,List.map_nil,List.getElem?_toArray,List.getElem?_cons_zero,aV,df,aj,bh];exact ok.same S (.int _ _)
  ·subst bg;cases aa
 ·rename_i x y dN aF;subst bg;simp only [b3,aF];exact akl S aa (bO x (by simp [dr.dq])) (bO y (by simp [dr.dq])) ok
 ·rename_i x y t t2 aF;simp only [b3,aF];split at bg
  ·rename_i el Ig aj lk;split at bg
   ·rename_i m bs z hs hb aH;cases aK:(Nat.ble 1 m&&Nat.beq (ew z).length m&&Nat.ble 1 bs) with
    | false=>rw [aK] at bg;subst bg;cases aa
    | true=>rw [aK,cond_true] at bg;subst bg;exact anh S cU aj lk hs hb aH aK aa (bO x (by simp [dr.dq])) (bO y (by simp [dr.dq])) ok
   ·subst bg;cases aa
  ·subst bg;cases aa
 ·rename_i x y t dN aF;simp only [b3,aF];split at bg
  ·rename_i el aj;split at bg
   ·rename_i m hs;subst bg;exact akn S aj hs aa (bO x (by simp [dr.dq])) (bO y (by simp [dr.dq])) ok
   ·subst bg;cases aa
  ·subst bg;cases aa
 ·rename_i x t aF;simp only [b3,aF];split at bg
  ·rename_i el aj;split at bg
   ·rename_i z aH;cases aK:(lL (ew z)&&Nat.ble 1 (ew z).length) with
    | false=>rw [aK] at bg;subst bg;cases aa
    | true=>rw [aK,cond_true] at bg;subst bg;exact ahk (m:=0) S aj aH aK aa (bO x (by simp [dr.dq])) ok
   ·subst bg;cases aa
  ·subst bg;cases aa
 ·subst bg;cases aa
end
end
end Go.Nk
