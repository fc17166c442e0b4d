/- Part Paw of the proof of ButtBack: lemmas. -/
import Derived.Test.YthgephlghkjiaaaGreatDoorPav
set_option maxRecDepth 100000
set_option maxHeartbeats 4000000
set_option linter.all false
namespace Go.Nk
noncomputable section
open Go Go.Conc Go.Proofs
def dn(i:Int):List UInt8:=dec i.toNat
def hx(i:Int):Prop:=0<=i/\i<10000
def qj(ns:List Int):List UInt8:=ns.flatMap fun n=>32::dn n
def iq(w:List UInt8)(ns:List Int):List UInt8:=w++qj ns++[10]
theorem y8{α β:Type}{f:α->List β}{l:List α}{i:Nat}(h:i<l.length):(l.take (i+1)).flatMap f=(l.take i).flatMap f++f l[i]:=by
 have:l.take (i+1)=l.take i++[l[i]]:=by rw [List.take_add_one];simp [h]
 rw [this,List.flatMap_append];simp only [List.flatMap_cons,List.flatMap_nil,List.append_nil]
theorem zu{n:Nat}:(dec n).length<=4:=by
 unfold dec;split
 ·simp
 ·split
  ·simp
  ·split<;>simp
theorem ET:∀(ns:List Int),(qj ns).length<=5*ns.length
 | []=>by simp [qj]
 | n::ns=>by
  have:=ET ns;have:=@zu n.toNat;simp only [qj,List.flatMap_cons,List.length_append,List.length_cons,dn] at*
  omega
section
variable{main:Bool}{ah:Type}{S:Sys ah}{s:ah}{h0 h:ab}
theorem call34:bP Tryz.prog 34=true:=by kernel_rfl
theorem MB{i:Int}(hi:hx i)(aj:oe h):bI Tryz.prog main S 36 #[.int .i64 i] s h fun ai h' v=>ai=s/\h.aD h'/\v=aW (dn i):=by
 have e:i=(i.toNat:Int):=by have:=hi.1;omega
 rw [e];exact aoU (by have:=hi.2;omega) aj
theorem z7{c:Nat}{l w:List UInt8}{v:Value}{ns:List Int}(q:jU h0 h c l)(aI:ju h0 v ns)(ao:∀n∈ns,hx n)(aj:oe h0)(af:l.length+w.length<=100000)(hk:ns.length<=100):
  bI Tryz.prog main S 34 #[aW w,v,bL c 0] s h fun ai h' z=>ai=s/\jU h0 h' c (l++iq w ns):=by
 refine cc (args:=[aW w,v,bL c 0]) Tryz.func34 (by delta Tryz.f34;rfl) Tryz.ntmps34 (by simp) (by kernel_rfl) ?_;obtain ⟨b,o,n,dS,rfl,cR,hb⟩:=aI;simp only [List.length_map] at cR;subst cR;simp only [ad,seval];refine c0 call35 (JJ q (by omega)) fun s2 h2 z ⟨an,az⟩=> ?_;subst an;simp only [ad,seval];refine eG (I:=fun k e d cx aa=>∃i:Nat,k=ns.length- i/\i<=ns.length/\e 2=bL c 0/\e 9=.slice b ns.length dS/\e 10=.int .i64 ns.length/\e 11=.int .i64 i/\d=[]/\cx=s2/\jU h0 aa c (l++(w++qj (ns.take i)))) (fun k e d cx aa bU=> ?_) (m:=ns.length) ⟨0,by simp,by simp,by simp [ak],by simp [ak],by simp [ak],by simp [ak],rfl,rfl,by simpa [qj] using az⟩;obtain ⟨i,rfl,hi,e2,de,hA,nI,rfl,rfl,pZ⟩:=bU;rcases Nat.lt_or_ge i ns.length with hc|hc
 ·obtain ⟨mb,rfl,arr,q,f,w',hm,al⟩:=hb.resolve_left (by omega);have g1:arr[o+i]? =some (.int .i64 ns[i]):=by simpa [b4] using al i [b4 ns[i]] (by simp [hc]) 0 _ rfl
  have dL:=pZ.1 _ _ hm;have bd:decide ((i:Int)<ns.length)=true:=by simp;omega
  simp only [ad,seval,e2,de,hA,nI,dL,g1,bd];refine c0 call36 (MB (ao _ (List.getElem_mem _)) (oe.le pZ.1 aj)) fun fQ h3 z ⟨an,az,aB⟩=> ?_;subst an;subst aB;have pV:=ET (ns.take i);have ld:=@zu (ns[i]).toNat;have axc:∀{x y:Operand} {h:ab} [K:KK Value],au Tryz.prog (cr .add 9 x y (.string ⟨#[32]⟩) (aW (dn ns[i]))) h=K.f (aW (32::dn ns[i])) h:=fun {x y h K}=>w6 (a:=[32]) (b:=dn ns[i]) (by simp [dn];omega);simp only [ad,seval,e2,axc];refine c0 call35 (JJ (m:=32::dn ns[i]) (pZ.le az) ?_) fun eW h4 z ⟨r1,r2⟩=> ?_
  ·simp only [List.length_append,List.length_cons,dn] at*
   have:(ns.take i).length<=100:=by simp;omega
   omega
  subst r1;simp only [ad,seval,nI];refine ⟨_,?_,i+1,rfl,by omega,by simp [ak,e2],by simp [ak,de],by simp [ak,hA],by simp [ak,dw (x:=(i:Int)+1) (by omega) (by omega)],?_⟩
  ·omega
  ·have:qj (ns.take (i+1))=qj (ns.take i)++32::dn ns[i]:=y8 hc;rw [this];simpa [List.append_assoc] using r2
 ·have:i=ns.length:=by omega
  subst this;rw [List.take_length] at pZ;simp only [ad,seval,hA,nI,e2,decide_eq_false (show ¬((ns.length:Nat):Int)<ns.length by omega)];have pV:=ET ns;refine c0 call35 (JJ (m:=[10]) pZ ?_) fun eW h4 z ⟨r1,r2⟩=> ?_
  ·simp only [List.length_append,List.length_cons,List.length_nil] at*
   omega
  subst r1;simp only [ad,seval];exact nt Tryz.results34 ⟨rfl,by simpa [iq,List.append_assoc] using r2⟩
end
section
variable{h h0:ab}
theorem atN:(Array.range (2*1)).map (fun i=>(Value.cells (.int .i64 0))[i%(Value.cells (.int .i64 0)).size]!)=#[.int .i64 0,.int .i64 0]:=by kernel_rfl
theorem atO:(Array.range (3*1)).map (fun i=>(Value.cells (.int .i64 0))[i%(Value.cells (.int .i64 0)).size]!)=#[.int .i64 0,.int .i64 0,.int .i64 0]:=by kernel_rfl
theorem ao2{a b:Int}{K:Value->ab->Prop}(k:∀c h1,h c=none->h1=h.put c ⟨.cells ⟨[b4 a,b4 b]⟩ 3 (0,0),true⟩->K (eO c 0 2 2) h1):@au Tryz.prog _ (Instr.buildSlice 44 2 #[(0,.int .i64 a),(1,.int .i64 b)]) h ⟨K⟩:=by
 simp only [au,Instr.buildSlice,aV,df,Tryz.underlying44,gL,fQ,iD,z3,bh];rw [if_neg (by decide),if_neg (by decide)];simp only [aV,iD,z3,bh,atN];intro c hc;exact k c _ hc rfl
theorem Vo{a b d:Int}{K:Value->ab->Prop}(k:∀c h1,h c=none->h1=h.put c ⟨.cells ⟨[b4 a,b4 b,b4 d]⟩ 3 (0,0),true⟩->K (eO c 0 3 3) h1):@au Tryz.prog _ (Instr.buildSlice 44 3 #[(0,.int .i64 a),(1,.int .i64 b),(2,.int .i64 d)]) h ⟨K⟩:=by
 simp only [au,Instr.buildSlice,aV,df,Tryz.underlying44,gL,fQ,iD,z3,bh];rw [if_neg (by decide),if_neg (by decide)];simp only [aV,iD,z3,bh,atO];intro c hc;exact k c _ hc rfl
theorem ju.built{c:Nat}{ns:List Int}{f:Nat×Nat}{w:Bool}(g:h c=some ⟨.cells ⟨ns.map b4⟩ 3 f,w⟩):ju h (eO c 0 ns.length ns.length) ns:=by
 refine ⟨_,0,_,_,rfl,by simp,.inr ⟨c,rfl,_,_,_,_,g,fun i row al j x aa=> ?_⟩⟩;rw [List.getElem?_map] at al;cases ao:ns[i]? with
 | none=>rw [ao] at al;cases al
 | some n=>
  rw [ao] at al;cases al;cases j with
  | zero=>cases aa;simp [ao]
  | succ j=>simp at aa
theorem jU.Py{yg:ab}{c:Nat}{l:List UInt8}(q:jU h0 h c l)(le:yg.aD h0):jU yg h c l:=by
 obtain ⟨a,b,p,sl,c1,c2,c3⟩:=q;have k:∀d,h0 d=none->yg d=none:=fun d hd=>by
  cases aa:yg d with
  | none=>rfl
  | some x=>rw [le _ _ aa] at hd;cases hd
 refine ⟨le.aU a,k c b,p,sl,c1,c2,c3.mono (fun d hd=> ?_) fun _ _ _ q=>q⟩;by_cases e:d=c
 ·subst e;rw [dd] at hd;cases hd
 ·rw [cG e] at hd ⊢;exact k d hd
theorem jU.nil{c:Nat}(hc:h c=none):jU h (h.put c ⟨.cells #[.pointer none,.slice none 0 0] 89 (0,0),true⟩) c []:=⟨hf hc,hc,_,_,.inl rfl,dd,.inl ⟨rfl,rfl⟩⟩
end
theorem E9{α β:Type}{f:α->List β}{k:Nat}:∀{l:List α},(∀a∈l,(f a).length<=k)->(l.flatMap f).length<=k*l.length
 | [],_=>by simp
 | a::l,h=>by
  have h1:=h a (by simp);have h2:=E9 (l:=l) (f:=f) (k:=k) fun x aa=>h x (by simp [aa]);rw [List.flatMap_cons,List.length_append,List.length_cons,Nat.mul_add,Nat.mul_one];omega
def re:List UInt8:=[98,111,115,115]
def mO:List UInt8:=[108,97,121,101,114]
def lO:List UInt8:=[115,101,115,115,105,111,110]
def oG:List UInt8:=[103,114,111,117,110,100]
def nz:List UInt8:=[115,116,97,110,100]
def mR:List UInt8:=[97,114,99,104,101,114]
def jR(p:Int×Int):List UInt8:=dn p.1++if p.1<p.2 then [46,46]++dn p.2 else []
def mP(l:List (Int×Int)):List UInt8:=l.flatMap fun p=>32::jR p
def qk(l:List (Int×Int)):List UInt8:=lO++mP l++[10]
def xM(s:iB):List UInt8:=iq (nz++32::s.name) [s.dQ,s.size,s.iG]
def vF(s:je):List UInt8:=iq (mR++32::s.name) [s.size,s.gM,s.dQ]
def pw(x:ej)(y:Ground):List UInt8:=iq re [x.fN,x.fH]++(x.cI.flatMap (iq mO)++(x.cO.flatMap qk++(iq oG []++(y.dT.flatMap xM++y.ei.flatMap vF))))
theorem r6{w:List UInt8}{ns:List Int}:(iq w ns).length<=w.length+5*ns.length+1:=by
 have:=ET ns;simp only [iq,List.length_append,List.length_cons,List.length_nil];omega
theorem agN{p:Int×Int}:(jR p).length<=10:=by
 have:=@zu p.1.toNat;have:=@zu p.2.toNat;unfold jR;split<;>simp only [List.length_append,List.length_cons,List.length_nil,dn]<;>omega
theorem J5{l:List (Int×Int)}:(mP l).length<=11*l.length:=E9 fun p _=>by
 have:=@agN p;simp only [List.length_cons];omega
theorem Ks{l:List (Int×Int)}:(qk l).length<=11*l.length+8:=by
 have:=@J5 l;simp only [qk,lO,List.length_append,List.length_cons,List.length_nil];omega
theorem WA{n lo hi:Int}:jP n lo hi=true↔lo<=n/\n<=hi:=by simp [jP]
theorem ej.cu.n4{x:ej}(q:x.cu):(hx x.fN/\hx x.fH)/\(∀l∈x.cI,∀n∈l,hx n)/\∀l∈x.cO,∀p∈l,hx p.1/\hx p.2:=by
 have h1:=q.cg;have h2:=q.gO;simp only [Bool.and_eq_true,decide_eq_true_eq] at h1 h2;refine ⟨⟨⟨h1.1,by omega⟩,h2.1,by omega⟩,fun l af n ao=> ?_,fun l af p aK=> ?_⟩
 ·have:=(q.tP l af).2 n ao;simp only [nx,Bool.and_eq_true,decide_eq_true_eq] at this;exact ⟨this.1,by omega⟩
 ·have:=(q.load l af).2 p aK;simp only [insideOk,Bool.and_eq_true,decide_eq_true_eq] at this;exact ⟨⟨this.1.1,by omega⟩,this.2.1.1,by omega⟩
theorem WB{s:iB}(q:k9 s=true):∀n∈[s.dQ,s.size,s.iG],hx n:=by
 simp only [k9,Bool.and_eq_true,WA] at q;intro n ao;simp only [List.mem_cons,List.not_mem_nil,or_false] at ao;unfold hx;rcases ao with rfl|rfl|rfl<;>omega
theorem WC{s:je}(q:ko s=true):∀n∈[s.size,s.gM,s.dQ],hx n:=by
 simp only [ko,Bool.and_eq_true,WA] at q;intro n ao;simp only [List.mem_cons,List.not_mem_nil,or_false] at ao;unfold hx;rcases ao with rfl|rfl|rfl<;>omega
theorem yQ{α β:Type}{f:α->List β}{k m i:Nat}{l:List α}(h:∀a∈l,(f a).length<=k)(hm:l.length<=m):((l.take i).flatMap f).length<=k*m:=by
 refine Nat.le_trans (E9 fun a aA=>h a (List.mem_of_mem_take aA)) (Nat.mul_le_mul_left _ ?_);simp;omega
theorem ju.nil{h:ab}:ju h (.slice none 0 0) []:=⟨none,0,0,0,rfl,rfl,.inl rfl⟩
theorem jq{h0 h:ab}{d:Nat}(le:h0.aD h)(hd:h d=none):h0 d=none:=by
 cases aa:h0 d with
 | none=>rfl
 | some x=>rw [le _ _ aa] at hd;cases hd
section
variable{main:Bool}{ah:Type}{S:Sys ah}{s:ah}{h:ab}
theorem amE{v w:Value}{x:ej}{y:Ground}(aI:mh h v x)(hw:lG h w y)(aP:x.fits)(aG:y.fits)(aj:tQ h)(h4:oe h):
  bI Tryz.prog main S 8 #[v,w] s h fun ai h' z=>ai=s/\h.aD h'/\((x.cu/\y.cu)/\z=.tuple #[aW (pw x y),.int .i64 0]\/¬(x.cu/\y.cu)/\∃f:Int,f≠0/\z=.tuple #[aW [],.int .i64 f]):=by
 refine cc (args:=[v,w]) Tryz.func8 (by delta Tryz.f8;rfl) Tryz.ntmps8 (by simp) (by kernel_rfl) ?_;obtain ⟨v1,v2,aS,⟨vs,hZ,j2⟩,⟨us,mz,pM⟩⟩:=id aI;obtain ⟨w1,w2,qW,Dn,lk⟩:=id hw;rw [aS,qW];simp only [ad,seval,b4];intro c1 h1 fe e1 c2 h2 cN e2;have bM:=(cS fe e1).aU (cS cN e2);have g1:=cS cN e2 _ _ (cq e1);have g2:=cq e2;simp only [ad,seval,g1];have Dh:=aI.le bM;rw [aS] at Dh;refine c0 call32 (SX Dh aP (aj.le bM)) fun fQ h3 z ⟨an,bK,f,aB,aX⟩=> ?_;subst an;subst aB;simp only [ad,seval];by_cases aE:f=0
 case neg=>
  have e:(f != 0)=true:=by simpa using aE
  simp only [ad,seval,e];exact ny Tryz.results8 (by simp) (by simp) ⟨rfl,bM.aU bK,.inr ⟨fun k=>aE (aX.2 k.1),f,aE,by simp [ak]⟩⟩
 have e:(f != 0)=false:=by simp [aE]
 have qL:=aX.1 aE;simp only [ad,seval,e,bK _ _ g2];have ya:=hw.le (bM.aU bK);rw [qW] at ya;refine c0 call33 (SC ya aG (aj.le (bM.aU bK))) fun eW h5 z ⟨an,cd,f2,aB,cp⟩=> ?_;subst an;subst aB;simp only [ad,seval];by_cases sL:f2=0
 case neg=>
  have e:(f2 != 0)=true:=by simpa using sL
  simp only [ad,seval,e];exact ny Tryz.results8 (by simp) (by simp) ⟨rfl,(bM.aU bK).aU cd,.inr ⟨fun k=>sL (cp.2 k.2),f2,sL,by simp [ak]⟩⟩
 have e:(f2 != 0)=false:=by simp [sL]
 have yh:=cp.1 sL;simp only [ad,seval,e];clear aX cp Dh ya e aE sL;have ey:=(bM.aU bK).aU cd;have Q6:=(bK.aU cd) _ _ g1;have nK:=(bK.aU cd) _ _ g2;clear g1 g2;have h45:=h4.le ey;clear bM bK cd;intro eN h6 ot cH;have Bn:jU h5 h6 eN []:=by subst cH;exact jU.nil ot
 have g1:=Bn.1 _ _ Q6;have g2:=Bn.1 _ _ nK;simp only [ad,seval,g1];refine ao2 fun c h7 hc e7=> ?_;simp only [ad,seval,mN,call34];have e8:=qL.n4;subst e7;refine (z7 (w:=re) (ns:=[x.fN,x.fH]) (Bn.bR hc) (ju.built (ns:=[x.fN,x.fH]) dd) (by intro n ao;simp at ao;rcases ao with rfl|rfl;exact e8.1.1;exact e8.1.2) (h45.le (hf (jq Bn.1 hc))) (by decide) (by simp)).mono fun yJ h7 z ⟨an,aaX⟩=> ?_;subst an;have Bh:=aaX.Py (hf (jq Bn.1 hc));clear aaX;have g1:=Bh.1 _ _ Q6;simp only [ad,seval,g1];obtain ⟨p,o,dS,rfl,aK⟩:=(hZ.le ey).one;simp only [ad,seval];have bW:=j2.1;have acv:=qL.lay;obtain ⟨T,yy⟩:∃T,T=iq re [x.fN,x.fH]:=⟨_,rfl⟩;have azy:T.length<=20:=by rw [yy];exact Nat.le_trans r6 (by simp [re])
 rw [List.nil_append,<- yy] at Bh;refine eG (I:=fun k e d cx aa=>∃i:Nat,k=vs.length- i/\i<=vs.length/\e 2=bL c1 0/\e 3=bL c2 0/\e 8=bL eN 0/\e 9=ea 34 [bL eN 0]/\e 40=.slice p vs.length dS/\e 41=.int .i64 vs.length/\e 42=.int .i64 i/\d=[]/\cx=yJ/\jU h5 aa eN (T++(x.cI.take i).flatMap (iq mO))) (fun k e d cx aa bU=> ?_) (m:=vs.length) ⟨0,by simp,by simp,by simp [ak],by simp [ak],by simp [ak],by simp [ak],by simp [ak],by simp [ak],by simp [ak],by simpa using Bh⟩;clear Bh g1 Bn cH;obtain ⟨i,rfl,hi,e2,e3,cH,de,IT,IU,IV,rfl,rfl,B⟩:=bU;rcases Nat.lt_or_ge i vs.length with hc|hc
 ·obtain ⟨mb,rfl,arr,q,f,w',hm,al⟩:=aK.resolve_left (by omega);have dL:=B.1 _ _ hm;have f1:=al i hc;have bd:decide ((i:Int)<vs.length)=true:=by simp;omega
  have uG:i<x.cI.length:=by omega
  have A:=j2.2 i vs[i] x.cI[i] (by simp) (by simp);obtain ⟨a1,o1,hr,d1,x7,_⟩:=id A;simp only [ad,seval,e2,e3,de,IT,IU,IV,dL,f1,bd,x7];intro ox h8 rI e7;have g9:=cq e7;have gD:=cS rI e7;simp only [ad,seval,gD _ _ dL,f1,g9];intro h9 e7;have xN:=fq gD rI e7;have g9:=cq e7;simp only [ad,seval,de,g9,mN,call34];rw [x7] at A;have Q7:=yQ (f:=iq mO) (i:=i) (k:=26) (fun a aA=>by have:=@r6 mO a;have:=(qL.tP a aA).1;simp [mO] at *;omega) acv.2;refine (z7 (w:=mO) (ns:=x.cI[i]) (B.le xN) (dx.le ey A) (e8.2.1 _ (List.getElem_mem _)) h45 (by have:mO.length=5:=rfl;rw [List.length_append];omega) (by have:=(qL.tP _ (List.getElem_mem uG)).1;omega)).mono fun mI h10 z ⟨an,ht⟩=> ?_;subst an;simp only [ad,seval,IV];refine ⟨_,?_,i+1,rfl,by omega,by simp [ak,e2],by simp [ak,e3],by simp [ak,cH],by simp [ak,de],by simp [ak,IT],by simp [ak,IU],by simp [ak,dw (x:=(i:Int)+1) (by omega) (by omega)],?_⟩
  ·omega
  ·rw [y8 uG,<- List.append_assoc];exact ht
 ·have dt:i=x.cI.length:=by omega
  rw [dt,List.take_length] at B;have g1:=B.1 _ _ Q6;simp only [ad,seval,e2,e3,de,IT,IU,IV,decide_eq_false (show ¬(i:Int)<vs.length by omega),g1];have Q7:=yQ (f:=iq mO) (i:=x.cI.length) (k:=26) (fun a aA=>by have:=@r6 mO a;have:=(qL.tP a aA).1;simp [mO] at *;omega) acv.2;rw [List.take_length] at Q7;obtain ⟨td,Q8⟩:∃td,td=T++x.cI.flatMap (iq mO):=⟨_,rfl⟩;have aBb:td.length<=120:=by rw [Q8,List.length_append];omega
  rw [<- Q8] at B;clear Q7 azy aK IT IU IV hc g1 dt hi;obtain ⟨p2,o2,sX,rfl,x1⟩:=(mz.le ey).one;simp only [ad,seval];have aBF:=pM.1;have aaY:=qL.Dq;refine eG (I:=fun k e d ai aa=>∃i:Nat,k=us.length- i/\i<=us.length/\e 2=bL c1 0/\e 3=bL c2 0/\e 8=bL eN 0/\e 9=ea 34 [bL eN 0]/\e 52=.slice p2 us.length sX/\e 53=.int .i64 us.length/\e 54=.int .i64 i/\d=[]/\ai=cx/\jU h5 aa eN (td++(x.cO.take i).flatMap qk)) (fun k e d ai aa bU=> ?_) (m:=us.length) ⟨0,by simp,by simp,by simp [ak,e2],by simp [ak,e3],by simp [ak,cH],by simp [ak,de],by simp [ak],by simp [ak],by simp [ak],by simpa using B⟩;clear B e2 e3 cH de;obtain ⟨i,rfl,hi,e2,e3,cH,de,uH,uI,uJ,rfl,rfl,B⟩:=bU;have wI:=yQ (f:=qk) (i:=i) (k:=52) (m:=4) (fun a aA=>by have:=@Ks a;have:=(qL.load a aA).1;omega) aaY;rcases Nat.lt_or_ge i us.length with hc|hc
  ·obtain ⟨mb,rfl,arr,q,f,w',hm,al⟩:=x1.resolve_left (by omega);have dL:=B.1 _ _ hm;have f1:=al i hc;have bd:decide ((i:Int)<us.length)=true:=by simp;omega
   have uG:i<x.cO.length:=by omega
   have A:=pM.2 i us[i] x.cO[i] (by simp) (by simp);have R4:=(qL.load _ (List.getElem_mem uG)).1;have n4:=e8.2.2 _ (List.getElem_mem uG);have wu:=y8 (f:=qk) uG;generalize x.cO[i]=L at A R4 n4 wu;obtain ⟨a1,o1,hr,d1,x7,IW,jc⟩:=id A;simp only [List.length_map] at IW;subst IW;simp only [ad,seval,e2,e3,de,uH,uI,uJ,dL,f1,bd,x7];intro ox h8 rI e7;have g9:=cq e7;have gD:=cS rI e7;simp only [ad,seval,gD _ _ dL,f1,g9];intro h9 e7;have xN:=fq gD rI e7;have g9:=cq e7;simp only [ad,seval,de,g9];have ht:=B.le xN;clear B dL g9 gD e7;refine eG (I:=fun k e d cx aa=>∃j:Nat,k=L.length- j/\j<=L.length/\e 2=bL c1 0/\e 3=bL c2 0/\e 8=bL eN 0/\e 9=ea 34 [bL eN 0]/\e 52=.slice (some ⟨mb,o2,none⟩) us.length sX/\e 53=.int .i64 us.length/\e 54=.int .i64 i/\e 14=aW (lO++mP (L.take j))/\e 59=.slice a1 L.length d1/\e 60=.int .i64 L.length/\e 61=.int .i64 j/\d=[]/\cx=ai/\h9.aD aa) (fun k e d cx aa bU=> ?_) (m:=L.length) ⟨0,by simp,by simp,by simp [ak,e2],by simp [ak,e3],by simp [ak,cH],by simp [ak,de],by simp [ak,uH],by simp [ak,uI],by simp [ak,uJ],by simp [ak,mP,lO],by simp [ak],by simp [ak],by simp [ak],rfl,rfl,.lC _⟩;clear e2 e3 cH de uH uI uJ;obtain ⟨j,rfl,ae,e2,e3,cH,de,uH,uI,uJ,Q9,Ra,IX,IY,rfl,rfl,mA⟩:=bU;rcases Nat.lt_or_ge j L.length with cN|cN
   ·obtain ⟨aBc,rfl,vG,aB,f3,w3,yi,qM⟩:=jc.resolve_left (by omega);have wx:=mA _ _ (ht.1 _ _ (ey _ _ yi));have r1:=qM j [b4 L[j].1,b4 L[j].2] (by simp [cN]);have a1:vG[o1+j*2]? =some (.int .i64 L[j].1):=r1 0 _ rfl;have a2:vG[o1+j*2+1]? =some (.int .i64 L[j].2):=r1 1 _ rfl;have QR:decide ((j:Int)<L.length)=true:=by simp;omega
    have R5:=n4 _ (List.getElem_mem cN);have Rb:=y8 (f:=fun p=>32::jR p) cN;have aBG:=@J5 (L.take j);have aBd:(L.take j).length<=4:=by simp;omega
    generalize L[j]=j9 at r1 a1 a2 R5 Rb;simp only [ad,seval,Ra,IX,IY,wx,a1,a2,QR];intro c10 h10 Cu e7;have g10:=cq e7;have ir:=cS Cu e7;simp only [ad,seval,ir _ _ wx,a1,a2,g10];intro h11 e7;have g10:=cq e7;have mX:=fq ir Cu e7;simp only [ad,seval,g10,Q9];have d1:=@zu j9.1.toNat;have d2:=@zu j9.2.toNat;refine c0 call36 (MB R5.1 (h45.le (ht.1.aU (mA.aU mX)))) fun jl h12 z ⟨an,ss,aB⟩=> ?_;subst an;subst aB;have Ed:∀{x y:Operand} {h:ab} [K:KK Value],au Tryz.prog (cr .add 9 x y (.string ⟨#[32]⟩) (aW (dn j9.1))) h=K.f (aW (32::dn j9.1)) h:=fun {x y h K}=>w6 (a:=[32]) (b:=dn j9.1) (by simp [dn];omega);have azz:∀{x y:Operand} {h:ab} [K:KK Value],au Tryz.prog (cr .add 9 x y (aW (lO++mP (L.take j))) (aW (32::dn j9.1))) h=K.f (aW ((lO++mP (L.take j))++32::dn j9.1)) h:=fun {x y h K}=>w6 (by simp [dn,lO];omega);simp only [ad,seval,Ed,azz,ss _ _ g10];by_cases gC:j9.1<j9.2
    ·simp only [ad,seval,decide_eq_true (show j9.2>j9.1 from gC),ss _ _ g10];refine c0 call36 (MB R5.2 (h45.le (ht.1.aU (mA.aU (mX.aU ss))))) fun qU h13 z ⟨an,pG,aB⟩=> ?_;subst an;subst aB;have azA:∀{x y:Operand} {h:ab} [K:KK Value],au Tryz.prog (cr .add 9 x y (.string ⟨#[46,46]⟩) (aW (dn j9.2))) h=K.f (aW ([46,46]++dn j9.2)) h:=fun {x y h K}=>w6 (a:=[46,46]) (b:=dn j9.2) (by simp [dn];omega);have yK:∀{x y:Operand} {h:ab} [K:KK Value],au Tryz.prog (cr .add 9 x y (aW ((lO++mP (L.take j))++32::dn j9.1)) (aW ([46,46]++dn j9.2))) h=K.f (aW ((lO++mP (L.take j))++32::dn j9.1++([46,46]++dn j9.2))) h:=fun {x y h K}=>w6 (by simp [dn,lO];omega);simp only [ad,seval,azA,yK,IY];refine ⟨_,?_,j+1,rfl,by omega,by simp [ak,e2],by simp [ak,e3],by simp [ak,cH],by simp [ak,de],by simp [ak,uH],by simp [ak,uI],by simp [ak,uJ],?_,by simp [ak,Ra],by simp [ak,IX],by simp [ak,dw (x:=(j:Int)+1) (by omega) (by omega)],mA.aU (mX.aU (ss.aU pG))⟩
     ·omega
     ·have:mP (L.take (j+1))=mP (L.take j)++32::(dn j9.1++([46,46]++dn j9.2)):=by unfold mP;rw [Rb,jR,if_pos gC]
      rw [this];simp [ak,List.append_assoc]
    ·simp only [ad,seval,decide_eq_false (show ¬j9.2>j9.1 from gC),IY];refine ⟨_,?_,j+1,rfl,by omega,by simp [ak,e2],by simp [ak,e3],by simp [ak,cH],by simp [ak,de],by simp [ak,uH],by simp [ak,uI],by simp [ak,uJ],?_,by simp [ak,Ra],by simp [ak,IX],by simp [ak,dw (x:=(j:Int)+1) (by omega) (by omega)],mA.aU (mX.aU ss)⟩
     ·omega
     ·have:mP (L.take (j+1))=mP (L.take j)++32::dn j9.1:=by unfold mP;rw [Rb,jR,if_neg gC,List.append_nil]
      rw [this];simp [ak,List.append_assoc]
   ·have kr:j=L.length:=by omega
    rw [kr,List.take_length] at Q9;simp only [ad,seval,IX,IY,de,Q9,decide_eq_false (show ¬(j:Int)<L.length by omega),mN,call34];have aBe:=@J5 L;refine (z7 (w:=lO++mP L) (ns:=[]) (ht.le mA) ju.nil (by simp) h45 (by have:lO.length=7:=rfl;simp only [List.length_append];omega) (by simp)).mono fun mI h10 z ⟨an,j8⟩=> ?_;subst an;simp only [ad,seval,uJ];refine ⟨_,?_,i+1,rfl,by omega,by simp [ak,e2],by simp [ak,e3],by simp [ak,cH],by simp [ak,de],by simp [ak,uH],by simp [ak,uI],by simp [ak,dw (x:=(i:Int)+1) (by omega) (by omega)],?_⟩
    ·omega
    ·rw [wu,<- List.append_assoc];have:qk L=iq (lO++mP L) []:=by simp [qk,iq,qj]
     rw [this];exact j8
  ·have dt:i=x.cO.length:=by omega
   rw [dt,List.take_length] at B;have g2:=B.1 _ _ nK;have wI:=yQ (f:=qk) (i:=x.cO.length) (k:=52) (m:=4) (fun a aA=>by have:=@Ks a;have:=(qL.load a aA).1;omega) aaY;rw [List.take_length] at wI;simp only [ad,seval,e2,e3,de,uH,uI,uJ,decide_eq_false (show ¬(i:Int)<us.length by omega),mN,call34];refine (z7 (w:=oG) (ns:=[]) B ju.nil (by simp) h45 (by have:oG.length=6:=rfl;simp only [List.length_append];omega) (by simp)).mono fun mI h10 z ⟨an,j8⟩=> ?_;subst an;obtain ⟨yG,Rc⟩:∃yG,yG=td++x.cO.flatMap qk++iq oG []:=⟨_,rfl⟩;have aBf:yG.length<=400:=by rw [Rc,List.length_append,List.length_append];have:(iq oG []).length=7:=rfl;omega
   rw [<- Rc] at j8;have g2:=j8.1 _ _ nK;clear B x1 wI uH uI uJ hc hi dt;obtain ⟨azB,gT,aBH,azC,axd,aaZ,aa0⟩:=id (dx.le ey Dn);simp only [List.length_map] at aaZ;subst aaZ;subst axd;simp only [ad,seval,e3,g2];have ls:=yh.ns;have rs:=yh.st.1;refine eG (I:=fun k e d cx aa=>∃i:Nat,k=y.dT.length- i/\i<=y.dT.length/\e 3=bL c2 0/\e 8=bL eN 0/\e 9=ea 34 [bL eN 0]/\e 90=.slice azB y.dT.length azC/\e 91=.int .i64 y.dT.length/\e 92=.int .i64 i/\d=[]/\cx=mI/\jU h5 aa eN (yG++(y.dT.take i).flatMap xM)) (fun k e d cx aa bU=> ?_) (m:=y.dT.length) ⟨0,by simp,by simp,by simp [ak,e3],by simp [ak,cH],by simp [ak,de],by simp [ak],by simp [ak],by simp [ak],by simpa using j8⟩;clear j8 e2 e3 cH de g2;obtain ⟨i,rfl,hi,e3,cH,de,IZ,I0,I1,rfl,rfl,B⟩:=bU;have wI:=yQ (f:=xM) (i:=i) (k:=40) (m:=4) (fun a aA=>by
    have:=@r6 (nz++32::a.name) [a.dQ,a.size,a.iG];have al:=rs a aA;simp only [k9,js,Bool.and_eq_true,decide_eq_true_eq] at al;have:nz.length=5:=rfl;simp only [xM,List.length_append,List.length_cons,List.length_nil] at*
    omega) ls
   rcases Nat.lt_or_ge i y.dT.length with hc|hc
   ·obtain ⟨mb,rfl,arr,q,f,w',hm,al⟩:=aa0.resolve_left (by omega);have dL:=B.1 _ _ hm;have wu:=y8 (f:=xM) hc;have r1:=al i [aW y.dT[i].name,b4 y.dT[i].dQ,b4 y.dT[i].size,b4 y.dT[i].iG] (by simp [hc]);have yL:=rs _ (List.getElem_mem hc);generalize y.dT[i]=z at r1 yL wu;have a1:arr[gT+i*4]? =some (aW z.name):=r1 0 _ rfl;have a2:arr[gT+i*4+1]? =some (.int .i64 z.dQ):=r1 1 _ rfl;have a3:arr[gT+i*4+1+1]? =some (.int .i64 z.size):=r1 2 _ rfl;have a4:arr[gT+i*4+1+1+1]? =some (.int .i64 z.iG):=r1 3 _ rfl;have bd:decide ((i:Int)<y.dT.length)=true:=by simp;omega
    simp only [ad,seval,IZ,I0,I1,dL,a1,a2,a3,a4,bd];intro ox h8 rI e7;have g9:=cq e7;have gD:=cS rI e7;simp only [ad,seval,gD _ _ dL,a1,a2,a3,a4,g9];intro h9 e7;have xN:=fq gD rI e7;have g9:=cq e7;have qg:z.name.length<=12:=by
     simp only [k9,js,Bool.and_eq_true,decide_eq_true_eq] at yL;omega
    have Ed:∀{x y:Operand} {h:ab} [K:KK Value],au Tryz.prog (cr .add 9 x y (.string ⟨#[115,116,97,110,100,32]⟩) (aW z.name)) h=K.f (aW (nz++32::z.name)) h:=fun {x y h K}=>w6 (a:=[115,116,97,110,100,32]) (b:=z.name) (by simp;omega);simp only [ad,seval,de,g9,Ed];refine Vo fun c h12 iA hA=> ?_;simp only [ad,seval,mN,call34];have ht:=B.le xN;subst hA;refine (z7 (w:=nz++32::z.name) (ns:=[z.dQ,z.size,z.iG]) (ht.bR iA) (ju.built (ns:=[z.dQ,z.size,z.iG]) dd) (WB yL) (h45.le (hf (jq ht.1 iA))) (by have:nz.length=5:=rfl;simp only [List.length_append,List.length_cons];omega) (by simp)).mono fun mI h10 z ⟨an,DF⟩=> ?_;subst an;have j8:=DF.Py (hf (jq ht.1 iA));clear DF;simp only [ad,seval,I1];refine ⟨_,?_,i+1,rfl,by omega,by simp [ak,e3],by simp [ak,cH],by simp [ak,de],by simp [ak,IZ],by simp [ak,I0],by simp [ak,dw (x:=(i:Int)+1) (by omega) (by omega)],?_⟩
    ·omega
    ·rw [wu,<- List.append_assoc];exact j8
   ·have dt:i=y.dT.length:=by omega
    rw [dt,List.take_length] at B wI;have g2:=B.1 _ _ nK;simp only [ad,seval,e3,de,IZ,I0,I1,decide_eq_false (show ¬(i:Int)<y.dT.length by omega),g2];obtain ⟨wF,Rd⟩:∃wF,wF=yG++y.dT.flatMap xM:=⟨_,rfl⟩;have aBg:wF.length<=600:=by rw [Rd,List.length_append];omega
    rw [<- Rd] at B;clear aa0 wI IZ I0 I1 hc hi dt;obtain ⟨azD,gU,aBI,azE,axe,aa1,axf⟩:=id (dx.le ey lk);simp only [List.length_map] at aa1;subst aa1;subst axe;simp only [ad,seval];have la:=yh.Ec;have acw:=yh.yH.1;refine eG (I:=fun k e d ai aa=>∃i:Nat,k=y.ei.length- i/\i<=y.ei.length/\e 8=bL eN 0/\e 9=ea 34 [bL eN 0]/\e 110=.slice azD y.ei.length azE/\e 111=.int .i64 y.ei.length/\e 112=.int .i64 i/\d=[]/\ai=cx/\jU h5 aa eN (wF++(y.ei.take i).flatMap vF)) (fun k e d ai aa bU=> ?_) (m:=y.ei.length) ⟨0,by simp,by simp,by simp [ak,cH],by simp [ak,de],by simp [ak],by simp [ak],by simp [ak],by simpa using B⟩;clear B e3 cH de g2;obtain ⟨i,rfl,hi,cH,de,Pz,PC,PD,rfl,rfl,B⟩:=bU;have wI:=yQ (f:=vF) (i:=i) (k:=40) (m:=6) (fun a aA=>by
     have:=@r6 (mR++32::a.name) [a.size,a.gM,a.dQ];have al:=acw a aA;simp only [ko,js,Bool.and_eq_true,decide_eq_true_eq] at al;have:mR.length=6:=rfl;simp only [vF,List.length_append,List.length_cons,List.length_nil] at*
     omega) la
    rcases Nat.lt_or_ge i y.ei.length with hc|hc
    ·obtain ⟨mb,rfl,arr,q,f,w',hm,al⟩:=axf.resolve_left (by omega);have dL:=B.1 _ _ hm;have wu:=y8 (f:=vF) hc;have r1:=al i [aW y.ei[i].name,b4 y.ei[i].size,b4 y.ei[i].gM,b4 y.ei[i].dQ] (by simp [hc]);have yL:=acw _ (List.getElem_mem hc);generalize y.ei[i]=z at r1 yL wu;have a1:arr[gU+i*4]? =some (aW z.name):=r1 0 _ rfl;have a2:arr[gU+i*4+1]? =some (.int .i64 z.size):=r1 1 _ rfl;have a3:arr[gU+i*4+1+1]? =some (.int .i64 z.gM):=r1 2 _ rfl;have a4:arr[gU+i*4+1+1+1]? =some (.int .i64 z.dQ):=r1 3 _ rfl;have bd:decide ((i:Int)<y.ei.length)=true:=by simp;omega
     simp only [ad,seval,Pz,PC,PD,dL,a1,a2,a3,a4,bd];intro ox h8 rI e7;have g9:=cq e7;have gD:=cS rI e7;simp only [ad,seval,gD _ _ dL,a1,a2,a3,a4,g9];intro h9 e7;have xN:=fq gD rI e7;have g9:=cq e7;have qg:z.name.length<=12:=by
      simp only [ko,js,Bool.and_eq_true,decide_eq_true_eq] at yL;omega
     have Ed:∀{x y:Operand} {h:ab} [K:KK Value],au Tryz.prog (cr .add 9 x y (.string ⟨#[97,114,99,104,101,114,32]⟩) (aW z.name)) h=K.f (aW (mR++32::z.name)) h:=fun {x y h K}=>w6 (a:=[97,114,99,104,101,114,32]) (b:=z.name) (by simp;omega);simp only [ad,seval,de,g9,Ed];refine Vo fun c h12 iA hA=> ?_;simp only [ad,seval,mN,call34];have ht:=B.le xN;subst hA;refine (z7 (w:=mR++32::z.name) (ns:=[z.size,z.gM,z.dQ]) (ht.bR iA) (ju.built (ns:=[z.size,z.gM,z.dQ]) dd) (WC yL) (h45.le (hf (jq ht.1 iA))) (by have:mR.length=6:=rfl;simp only [List.length_append,List.length_cons];omega) (by simp)).mono fun mI h10 z ⟨an,DF⟩=> ?_;subst an;have j8:=DF.Py (hf (jq ht.1 iA));clear DF;simp only [ad,seval,PD];refine ⟨_,?_,i+1,rfl,by omega,by simp [ak,cH],by simp [ak,de],by simp [ak,Pz],by simp [ak,PC],by simp [ak,dw (x:=(i:Int)+1) (by omega) (by omega)],?_⟩
     ·omega
     ·rw [wu,<- List.append_assoc];exact j8
    ·have dt:i=y.ei.length:=by omega
     rw [dt,List.take_length] at B wI;simp only [ad,seval,cH,Pz,PC,PD,decide_eq_false (show ¬(i:Int)<y.ei.length by omega)];have acx:wF++y.ei.flatMap vF=pw x y:=by simp only [Rd,Rc,Q8,yy,pw,List.append_assoc]
     have azF:0<(wF++y.ei.flatMap vF).length:=by
      rw [acx,pw,iq];simp [re]
     refine c0 call37 (ajD B azF (by rw [List.length_append];omega)) fun mI h10 z ⟨an,ir,aB⟩=> ?_;subst an;subst aB;simp only [ad,seval];refine ny Tryz.results8 (by simp) (by simp) ⟨rfl,ey.aU ir,.inl ⟨⟨qL,yh⟩,?_⟩⟩;rw [<- acx];simp [ak]
end
def mB(w:UInt8):List UInt8->Option Nat
 | []=>none
 | x::l=>if x==w then some 0 else (mB w l).map (· +1)
def mn(w:UInt8)(l:List UInt8):Int:=match mB w l with|some i=>i|none=> -1
theorem Fa{w:UInt8}:∀{l:List UInt8},mB w l=none↔∀x∈l,(x==w)=false
 | []=>by simp [mB]
 | x::l=>by
  rw [mB];cases aa:(x==w) with
  | true=>exact ⟨fun q=>(by cases q),fun q=>by have:=q x (by simp);rw [aa] at this;cases this⟩
  | false=>
   simp only [Bool.false_eq_true,if_false,Option.map_eq_none_iff,Fa (l:=l)];exact ⟨fun q y ax=>(List.mem_cons.1 ax).elim (fun e=>by rw [e];exact aa) (q y),fun q y ax=>q y (by simp [ax])⟩
theorem Vp{w:UInt8}:∀{a b:List UInt8},(∀x∈a,(x==w)=false)->mB w (a++w::b)=some a.length
 | [],b,_=>by simp [mB]
 | x::a,b,h=>by
  rw [List.cons_append,mB,h x (by simp),Vp (a:=a) fun y ax=>h y (by simp [ax])];simp
theorem Kt{w:UInt8}:∀{l:List UInt8} {i:Nat},mB w l=some i->∃a b,l=a++w::b/\a.length=i/\∀x∈a,(x==w)=false
 | [],i,h=>by cases h
 | x::l,i,h=>by
  rw [mB] at h;cases aa:(x==w) with
  | true=>
   rw [aa] at h;cases h;exact ⟨[],l,by rw [beq_iff_eq.1 aa];rfl,rfl,by simp⟩
  | false=>
   rw [aa] at h;cases aP:mB w l with
   | none=>rw [aP] at h;cases h
   | some j=>
    rw [aP] at h;cases h;obtain ⟨a,b,e1,e2,e3⟩:=Kt aP;refine ⟨x::a,b,by rw [e1];rfl,by simp [e2],fun y ax=> ?_⟩;rcases List.mem_cons.1 ax with q|q
    ·rw [q];exact aa
    ·exact e3 y q
theorem ao3(l:List UInt8)(i:Nat):(⟨⟨l⟩⟩:ByteArray)[i]! =(l[i]?).getD default:=by
 have aG:(⟨⟨l⟩⟩:ByteArray)[i]? =l[i]? :=by
  rcases Nat.lt_or_ge i l.length with af|af
  ·rw [List.getElem?_eq_getElem af,getElem?_pos (⟨⟨l⟩⟩:ByteArray) i af];rfl
  ·rw [List.getElem?_eq_none af,getElem?_neg (⟨⟨l⟩⟩:ByteArray) i (by show ¬i<l.length;omega)]
 rw [getElem!_def,aG];cases l[i]? <;>rfl
theorem Vq(w:UInt8):∀l:List UInt8,((List.range l.length).find? fun i=>(l[i]?).getD default==w)=mB w l
 | []=>rfl
 | x::l=>by
  rw [List.length_cons,List.range_succ_eq_map,List.find?_cons,mB];have e0:(((x::l)[0]?).getD default==w)=(x==w):=rfl;rw [e0];cases aa:(x==w) with
  | true=>rfl
  | false=>
   rw [List.find?_map];have:((fun i=>((x::l)[i]?).getD default==w)∘Nat.succ)=fun i=>(l[i]?).getD default==w:=by funext i;simp
   rw [this,Vq w l];rfl
section
variable{P:Program}{h:ab}
theorem ada{l:List UInt8}{w:UInt8}{K:Value->ab->Prop}(k:K (.int .i64 (mn w l)) h):@au P _ (Extern.BytealgIndexByte.indexByte #[aW l,.int .u8 w.toNat]) h ⟨K⟩:=by
 have e:Extern.BytealgIndexByte.indexByte #[aW l,.int .u8 w.toNat]=pure (.int .i64 (mn w l)):=by
  show (match ((List.range (⟨⟨l⟩⟩:ByteArray).size).find? fun i:Nat=>(⟨⟨l⟩⟩:ByteArray)[i]! ==((w.toNat:Int).toNat.toUInt8)) with|some i=>pure (goInt i)|none=>pure (goInt (-1)):Sem Value)=_;have e1:((w.toNat:Int).toNat.toUInt8)=w:=by simp
  have e2:(fun i:Nat=>(⟨⟨l⟩⟩:ByteArray)[i]! ==w)=fun i:Nat=>(l[i]?).getD default==w:=by funext i;rw [ao3]
  rw [e1,e2,show (⟨⟨l⟩⟩:ByteArray).size=l.length from rfl,Vq];unfold mn;cases mB w l<;>rfl
 unfold au;rw [e,bh];exact k
end
theorem WE{β:Type}(f:β->UInt8->β)(l:List UInt8)(hs:l.length<=(⟨⟨l⟩⟩:ByteArray).size):∀(i j:Nat) (b:β),i+j=l.length->@_root_.Id.run β (ByteArray.foldlM.loop (β:=β) (m:=_root_.Id) (fun b x=>f b x) ⟨⟨l⟩⟩ l.length hs i j b)=(l.drop j).foldl f b
 | 0,j,b,h=>by
  unfold ByteArray.foldlM.loop;rw [dif_neg (by omega),List.drop_of_length_le (by omega)];rfl
 | i+1,j,b,h=>by
  have ae:j<l.length:=by omega
  unfold ByteArray.foldlM.loop;rw [dif_pos ae,List.drop_eq_getElem_cons ae,List.foldl_cons];exact WE f l hs i (j+1) _ (by omega)
theorem ajE{β:Type}(f:β->UInt8->β)(b:β)(l:List UInt8):(⟨⟨l⟩⟩:ByteArray).foldl f b=l.foldl f b:=by
 have h0:(⟨⟨l⟩⟩:ByteArray).size<=(⟨⟨l⟩⟩:ByteArray).size:=Nat.le_refl _;unfold ByteArray.foldl ByteArray.foldlM;simp only [dif_pos h0];exact WE f l (Nat.le_refl _) _ 0 b (by show l.length- 0+0=_;omega)
theorem Tm(w:UInt8):∀(l:List UInt8) (n:Int),l.foldl (fun n x=>if x==w then n+1 else n) n=n+(l.count w:Nat)
 | [],n=>by simp
 | x::l,n=>by
  rw [List.foldl_cons,Tm w l,List.count_cons];cases (x==w)<;>simp;omega
section
variable{P:Program}{h:ab}
theorem agO{l:List UInt8}{w:UInt8}{K:Value->ab->Prop}(k:K (.int .i64 (l.count w:Nat)) h):@au P _ (Extern.BytealgCount.count #[aW l,.int .u8 w.toNat]) h ⟨K⟩:=by
 have e:Extern.BytealgCount.count #[aW l,.int .u8 w.toNat]=pure (.int .i64 (l.count w:Nat)):=by
  have e0:Extern.BytealgCount.count #[aW l,.int .u8 w.toNat]=pure (goInt ((⟨⟨l⟩⟩:ByteArray).foldl (fun n x=>if x==((w.toNat:Int).toNat.toUInt8) then n+1 else n) (0:Nat))):=rfl;have e1:((w.toNat:Int).toNat.toUInt8)=w:=by simp
  rw [e0,e1,ajE,Tm];simp [goInt]
 unfold au;rw [e,bh];exact k
end
section
variable{main:Bool}{ah:Type}{S:Sys ah}
theorem call159:bP Tryz.prog 159=true:=by kernel_rfl
theorem call112:bP Tryz.prog 112=true:=by kernel_rfl
theorem call166:bP Tryz.prog 166=true:=by kernel_rfl
theorem call119:bP Tryz.prog 119=true:=by kernel_rfl
theorem call75:bP Tryz.prog 75=true:=by kernel_rfl
theorem call209:bP Tryz.prog 209=true:=by kernel_rfl
theorem call185:bP Tryz.prog 185=true:=by kernel_rfl
theorem call162:bP Tryz.prog 162=true:=by kernel_rfl
theorem OV(l:List UInt8)(w:UInt8):Pure Tryz.prog main S 159 #[aW l,.int .u8 w.toNat] (.int .i64 (mn w l)):=by
 intro s h;refine cc (args:=[aW l,.int .u8 w.toNat]) Tryz.func159 (by delta Tryz.f159;rfl) Tryz.ntmps159 (by simp) (by kernel_rfl) ?_;simp only [ad,seval];refine eX.native (K:=⟨_⟩) Tryz.func181 (by kernel_rfl) (by kernel_rfl) (by kernel_rfl) (x:=Extern.BytealgIndexByte.indexByte) (by kernel_rfl) ?_;refine ada ?_;simp only [ad,seval];exact bT Tryz.results159 (by simp) (by simp [ak])
theorem aro(l:List UInt8)(w:UInt8):Pure Tryz.prog main S 112 #[aW l,.int .u8 w.toNat] (.int .i64 (mn w l)):=by
 intro s h;refine cc (args:=[aW l,.int .u8 w.toNat]) Tryz.func112 (by delta Tryz.f112;rfl) Tryz.ntmps112 (by simp) (by kernel_rfl) ?_;simp only [ad,seval];refine eQ call159 (OV l w _ _) ?_;simp only [ad,seval];exact bT Tryz.results112 (by simp) (by simp [ak])
def px(l m:List UInt8):Bool:=decide (m.length<=l.length)&&(l.drop (l.length- m.length)==m)
def tz(l m:List UInt8):Bool:=decide (m.length<=l.length)&&(l.take m.length==m)
theorem I2{a b:Nat}:decide ((a:Int)>=b)=decide (b<=a):=by
 by_cases h:b<=a
 ·rw [decide_eq_true h,decide_eq_true (by omega)]
 ·rw [decide_eq_false h,decide_eq_false (by omega)]
theorem arp(l m:List UInt8)(af:l.length<=90000):Pure Tryz.prog main S 166 #[aW l,aW m] (.bool (px l m)):=by
 intro s h;refine cc (args:=[aW l,aW m]) Tryz.func166 (by delta Tryz.f166;rfl) Tryz.ntmps166 (by simp) (by kernel_rfl) ?_;by_cases hm:m.length<=l.length
 ·have w1:IntKind.i64.wrap ((l.length:Int)- m.length)=((l.length- m.length:Nat):Int):=by rw [dw (by omega) (by omega)];omega
  simp only [ad,seval,ha,I2,decide_eq_true hm,w1];rw [CB (K:=⟨_⟩) (by omega)];simp only [ad,seval,ki];exact bT Tryz.results166 (by simp) ⟨rfl,rfl,by simp [ak,px,hm]⟩
 ·simp only [ad,seval,ha,I2,decide_eq_false hm];exact bT Tryz.results166 (by simp) ⟨rfl,rfl,by simp [ak,px,hm]⟩
theorem arq(l m:List UInt8):Pure Tryz.prog main S 209 #[aW l,aW m] (.bool (tz l m)):=by
 intro s h;refine cc (args:=[aW l,aW m]) Tryz.func209 (by delta Tryz.f209;rfl) Tryz.ntmps209 (by simp) (by kernel_rfl) ?_;by_cases hm:m.length<=l.length
 ·simp only [ad,seval,ha,I2,decide_eq_true hm];rw [xK (K:=⟨_⟩) (by omega)];simp only [ad,seval,ki];exact bT Tryz.results209 (by simp) ⟨rfl,rfl,by simp [ak,tz,hm]⟩
 ·simp only [ad,seval,ha,I2,decide_eq_false hm];exact bT Tryz.results209 (by simp) ⟨rfl,rfl,by simp [ak,tz,hm]⟩
theorem ars(l m:List UInt8)(af:l.length<=90000):Pure Tryz.prog main S 119 #[aW l,aW m] (aW (if px l m then l.take (l.length- m.length) else l)):=by
 intro s h;refine cc (args:=[aW l,aW m]) Tryz.func119 (by delta Tryz.f119;rfl) Tryz.ntmps119 (by simp) (by kernel_rfl) ?_;simp only [ad,seval];refine eQ call166 (arp l m af _ _) ?_;cases aE:px l m with
 | true=>
  have hm:m.length<=l.length:=by simp [px] at aE;exact aE.1
  have w1:IntKind.i64.wrap ((l.length:Int)- m.length)=((l.length- m.length:Nat):Int):=by rw [dw (by omega) (by omega)];omega
  simp only [ad,seval,ha,w1];rw [xK (K:=⟨_⟩) (by omega)];simp only [ad,seval];exact bT Tryz.results119 (by simp) ⟨rfl,rfl,by simp [ak]⟩
 | false=>
  simp only [ad,seval];exact bT Tryz.results119 (by simp) ⟨rfl,rfl,by simp [ak]⟩
theorem atP(l m:List UInt8)(af:l.length<=90000):Pure Tryz.prog main S 75 #[aW l,aW m] (aW (if px l m then l.take (l.length- m.length) else l)):=by
 intro s h;refine cc (args:=[aW l,aW m]) Tryz.func75 (by delta Tryz.f75;rfl) Tryz.ntmps75 (by simp) (by kernel_rfl) ?_;simp only [ad,seval];refine eQ call119 (ars l m af _ _) ?_;simp only [ad,seval];exact bT Tryz.results75 (by simp) ⟨rfl,rfl,by simp [ak]⟩
theorem art(l m:List UInt8):Pure Tryz.prog main S 185 #[aW l,aW m] (aW (if tz l m then l.drop m.length else l)):=by
 intro s h;refine cc (args:=[aW l,aW m]) Tryz.func185 (by delta Tryz.f185;rfl) Tryz.ntmps185 (by simp) (by kernel_rfl) ?_;simp only [ad,seval];refine eQ call209 (arq l m _ _) ?_;cases aE:tz l m with
 | true=>
  have hm:m.length<=l.length:=by simp [tz] at aE;exact aE.1
  simp only [ad,seval,ha];rw [CB (K:=⟨_⟩) (by omega)];simp only [ad,seval];exact bT Tryz.results185 (by simp) ⟨rfl,rfl,by simp [ak]⟩
 | false=>
  simp only [ad,seval];exact bT Tryz.results185 (by simp) ⟨rfl,rfl,by simp [ak]⟩
theorem aru(l m:List UInt8):Pure Tryz.prog main S 162 #[aW l,aW m] (aW (if tz l m then l.drop m.length else l)):=by
 intro s h;refine cc (args:=[aW l,aW m]) Tryz.func162 (by delta Tryz.f162;rfl) Tryz.ntmps162 (by simp) (by kernel_rfl) ?_;simp only [ad,seval];refine eQ call185 (art l m _ _) ?_;simp only [ad,seval];exact bT Tryz.results162 (by simp) ⟨rfl,rfl,by simp [ak]⟩
end
section
variable{main:Bool}{ah:Type}{S:Sys ah}
theorem call208:bP Tryz.prog 208=true:=by kernel_rfl
theorem call184:bP Tryz.prog 184=true:=by kernel_rfl
theorem call183:bP Tryz.prog 183=true:=by kernel_rfl
theorem arv(l:List UInt8)(w:UInt8):Pure Tryz.prog main S 208 #[aW l,aW [w]] (.int .i64 (mn w l)):=by
 intro s h;refine cc (args:=[aW l,aW [w]]) Tryz.func208 (by delta Tryz.f208;rfl) Tryz.ntmps208 (by simp) (by kernel_rfl) ?_;have e0:((([w].length:Nat):Int)==0)=false:=rfl;have e1:((([w].length:Nat):Int)==1)=true:=rfl;have aa:[w][(0:Int).toNat]? =some w:=rfl;simp only [ad,seval,ha,show (((0+1:Nat):Int)==0)=false from rfl,show (((0+1:Nat):Int)==1)=true from rfl,ki];cases aE:([w]==l) with
 | true=>
  simp only [ad,seval];have:l=[w]:=(beq_iff_eq.1 aE).symm;subst this;exact bT Tryz.results208 (by simp) ⟨rfl,rfl,by simp [ak,mn,mB]⟩
 | false=>
  simp only [ad,seval,show (((0+1:Nat):Int)==0)=false from rfl,show (((0+1:Nat):Int)==1)=true from rfl,kj,aa,nV];refine eQ call159 (OV l w _ _) ?_;simp only [ad,seval];exact bT Tryz.results208 (by simp) ⟨rfl,rfl,by simp [ak]⟩
theorem arw(l:List UInt8)(w:UInt8):Pure Tryz.prog main S 184 #[aW l,aW [w]] (.int .i64 (mn w l)):=by
 intro s h;refine cc (args:=[aW l,aW [w]]) Tryz.func184 (by delta Tryz.f184;rfl) Tryz.ntmps184 (by simp) (by kernel_rfl) ?_;simp only [ad,seval];refine eQ call208 (arv l w _ _) ?_;simp only [ad,seval];exact bT Tryz.results184 (by simp) ⟨rfl,rfl,by simp [ak]⟩
theorem arx(l:List UInt8)(w:UInt8):Pure Tryz.prog main S 183 #[aW l,aW [w]] (.int .i64 (l.count w:Nat)):=by
 intro s h;refine cc (args:=[aW l,aW [w]]) Tryz.func183 (by delta Tryz.f183;rfl) Tryz.ntmps183 (by simp) (by kernel_rfl) ?_;have aa:[w][(0:Int).toNat]? =some w:=rfl;simp only [ad,seval,ha,show (((0+1:Nat):Int)==0)=false from rfl,show (((0+1:Nat):Int)==1)=true from rfl,kj,aa,nV];refine eX.native (K:=⟨_⟩) Tryz.func207 (by kernel_rfl) (by kernel_rfl) (by kernel_rfl) (x:=Extern.BytealgCount.count) (by kernel_rfl) ?_;refine agO ?_;simp only [ad,seval];exact bT Tryz.results183 (by simp) ⟨rfl,rfl,by simp [ak]⟩
end
section
variable{P:Program}{h:ab}
theorem ary{t e c o n dS:Nat}{lo hi:Option Value}{l hh:Nat}(aj:P.underlying t=some (.slice e))(he:cy P e=some 1)(hm:(∃k,hi=some (.int k hh)/\hh<=dS)\/(hi=none/\hh=n))(af:(∃k,lo=some (.int k l)/\l<=hh)\/(lo=none/\l=0))(ao:hh<=dS)
  {K:Value->ab->Prop} (k:∀aO,(l<hh->aO=o+l)->K (eO c aO (hh- l) (dS- l)) h):@au P _ (Instr.sliceAt t (eO c o n dS) lo hi none) h ⟨K⟩:=by
 simp only [au,Instr.sliceAt,aV,df,aj];simp only [Instr.slice,aV,df,aj];refine EF hm af _ ?_;simp only [aV,gL,he,bh];by_cases e1:dS=l
 ·rw [if_pos e1];exact k o (by omega)
 ·rw [if_neg e1];have:=k (o+l) (fun _=>rfl);simp only [Option.map_some,k5,Nat.mul_one];exact this
theorem arz{a b:Int}(wj:a<=b)[K:KK Value]:au P (Builtin.min_ #[3,3] 3 #[.int .i64 a,.int .i64 b]) h=K.f (.int .i64 a) h:=by
 simp only [au,Builtin.min_,List.foldlM_cons,List.foldlM_nil,Builtin.min2,aV,bh];by_cases hb:b<a
 ·omega
 ·simp only [hb,if_false]
end
section
variable{h:ab}
theorem z9:zeroOf Tryz.prog 9=some (.string .empty):=by kernel_rfl
theorem mI:cy Tryz.prog 9=some 1:=by kernel_rfl
theorem axg:∃i,Tryz.prog.info? 9=some i/\i.bytes=16:=by
 have:(Tryz.prog.info? 9).map (·.bytes)=some 16:=by kernel_rfl
 cases hi:Tryz.prog.info? 9 with
 | none=>rw [hi] at this;cases this
 | some i=>rw [hi] at this;exact ⟨i,rfl,Option.some.inj this⟩
theorem atQ{n:Nat}(h1:1<=n)(h2:n<=100000){K:Value->ab->Prop}(k:∀c h1 arr,arr.size=n->h c=none->h1=h.put c ⟨.cells arr 9 (0,0),true⟩->K (eO c 0 n n) h1):@au Tryz.prog _ (Instr.makeSlice 98 (.int .i64 n) (.int .i64 n)) h ⟨K⟩:=by
 obtain ⟨i,hi,hb⟩:=axg;have w1:IntKind.i64.wrap (n:Int)=n:=dw (by omega) (by omega);have an:¬((n:Int)<0):=by omega
 have az:¬((16:Nat):Int)*(n:Int)>2^48:=by omega
 have aB:¬((n:Int)>(n:Int)):=by omega
 have aX:¬n=0:=by omega
 simp only [au,Instr.makeSlice,aV,df,Tryz.underlying98,asInt,asIntOf,bh];rw [u5 hi];rw [hb];simp only [w1,decide_eq_false an,decide_eq_false az,decide_eq_false aB,Bool.or_self,Bool.false_eq_true,if_false,aV,Ep,gL,mI,Int.toNat_natCast,Nat.mul_one,if_neg aX,iD,z9,bh];intro c hc;exact k c _ _ (by simp) hc rfl
end
def sp(w:UInt8):List UInt8->List (List UInt8)
 | []=>[[]]
 | x::l=>if x==w then []::sp w l else match sp w l with|[]=>[[x]]|f::fs=>(x::f)::fs
theorem FQ{w:UInt8}:∀{l:List UInt8},(∀x∈l,(x==w)=false)->sp w l=[l]
 | [],_=>rfl
 | x::l,h=>by
  rw [sp,h x (by simp),FQ (l:=l) fun y ax=>h y (by simp [ax])];rfl
theorem Oa{w:UInt8}:∀{a b:List UInt8},(∀x∈a,(x==w)=false)->sp w (a++w::b)=a::sp w b
 | [],b,_=>by simp [sp]
 | x::a,b,h=>by
  rw [List.cons_append,sp,h x (by simp),Oa (a:=a) fun y ax=>h y (by simp [ax])];rfl
theorem Ob{w:UInt8}:∀{l:List UInt8},(sp w l).length=l.count w+1
 | []=>rfl
 | x::l=>by
  have aN:=Ob (w:=w) (l:=l);rw [sp,List.count_cons];cases aa:(x==w) with
  | true=>simp [aN]
  | false=>
   cases hs:sp w l with
   | nil=>rw [hs] at aN;simp at aN
   | cons f fs=>rw [hs] at aN;simpa using aN
def nZ(h:ab)(v:Value)(l:List (List UInt8)):Prop:=dx h v 1 (l.map fun f=>[aW f])
section
variable{main:Bool}{ah:Type}{S:Sys ah}{s:ah}{h:ab}
theorem call160:bP Tryz.prog 160=true:=by kernel_rfl
theorem call113:bP Tryz.prog 113=true:=by kernel_rfl
theorem call161:bP Tryz.prog 161=true:=by kernel_rfl
theorem call114:bP Tryz.prog 114=true:=by kernel_rfl
theorem ajF{l:List UInt8}{w:UInt8}(af:l.length<=90000):bI Tryz.prog main S 160 #[aW l,aW [w],.int .i64 0,.int .i64 (-1)] s h fun ai h' v=>ai=s/\h.aD h'/\(∃m o n dS,v=eO m o n dS/\n<=dS)/\nZ h' v (sp w l):=by
 refine cc (args:=[aW l,aW [w],.int .i64 0,.int .i64 (-1)]) Tryz.func160 (by delta Tryz.f160;rfl) Tryz.ntmps160 (by simp) (by kernel_rfl) ?_;have uR:=Ob (w:=w) (l:=l);have hC:l.count w<=l.length:=List.count_le_length;simp only [ad,seval,show ((-1:Int)==0)=false from rfl,ki,show ([w]==([]:List UInt8))=false from rfl,show decide ((-1:Int)<0)=true from rfl];refine eQ call183 (arx l w _ _) ?_;have w1:IntKind.i64.wrap (((l.count w:Nat):Int)+1)=((l.count w+1:Nat):Int):=by rw [dw (by omega) (by omega)];omega
 have w2:IntKind.i64.wrap (((l.length:Nat):Int)+1)=((l.length+1:Nat):Int):=by rw [dw (by omega) (by omega)];omega
 have w3:IntKind.i64.wrap (((l.count w+1:Nat):Int)- 1)=((l.count w:Nat):Int):=by rw [dw (by omega) (by omega)];omega
 simp only [ad,seval,w1,ha,w2];rw [arz (K:=⟨_⟩) (by omega)];simp only [ad,seval];refine atQ (by omega) (by omega) fun c h1 arr QW hc e1=> ?_;have bx:=cS hc e1;have g1:=cq e1;simp only [ad,seval,w3];generalize ao:l.count w=n at*
 clear w1 w2 w3;refine eG (I:=fun k e d cx aa=>∃i r,k=n- i/\i<=n/\e 0=aW r/\e 1=aW [w]/\e 2=.int .i64 0/\e 3=.int .i64 n/\e 9=eO c 0 (n+1) (n+1)/\e 10=.int .i64 i/\d=[]/\cx=s/\r.length<=l.length/\(sp w l).drop i=sp w r/\h.aD aa/\∃arr,aa c=some ⟨.cells arr 9 (0,0),true⟩/\arr.size=n+1/\∀j,j<i->∀f,(sp w l)[j]? =some f->arr[j]? =some (aW f)) (fun k e d cx aa bU=> ?_) (m:=n) ⟨0,l,by simp,by simp,by simp [ak],by simp [ak],by simp [ak],by simp [ak],by simp [ak],by simp [ak],rfl,rfl,Nat.le_refl _,rfl,bx,arr,g1,QW,fun j ae=>by omega⟩;obtain ⟨i,r,rfl,hi,e0,gm,e2,e3,de,hA,rfl,rfl,al,hd,mA,vy,g2,pM,aP⟩:=bU;have sU:e 0=.string ⟨⟨r⟩⟩:=e0;rcases Nat.lt_or_ge i n with cN|cN
 ·cases aE:mB w r with
  | none=>
   rw [FQ (Fa.1 aE)] at hd;have:=congrArg List.length hd;simp at this;omega
  | some m=>
   obtain ⟨a,b,rfl,rfl,wj⟩:=Kt aE;rw [Oa wj] at hd;have axh:mn w (a++w::b)=(a.length:Int):=by simp [mn,aE]
   have hlen:(a++w::b).length=a.length+b.length+1:=by simp;omega
   simp only [ad,seval,e0,gm,e2,e3,hA,decide_eq_true (show (i:Int)<n by omega)];refine eQ call184 (arw _ w _ _) ?_;have v1:IntKind.i64.wrap ((a.length:Int)+0)=(a.length:Nat):=by rw [dw (by omega) (by omega)];omega
   have v2:IntKind.i64.wrap ((a.length:Int)+1)=((a.length+1:Nat):Int):=by rw [dw (by omega) (by omega)];omega
   have bd:decide ((i:Int)<(n+1:Nat))=true:=by simp;omega
   have l7:∀{h:ab} [K:KK Value],au Tryz.prog (Instr.sliceAt 9 (.string ⟨⟨a++w::b⟩⟩) none (some (.int .i64 a.length)) none) h=K.f (aW a) h:=fun {h K}=>by
    rw [xK (by simp),List.take_left' rfl]
   have tg:∀{h:ab} [K:KK Value],au Tryz.prog (Instr.sliceAt 9 (.string ⟨⟨a++w::b⟩⟩) (some (.int .i64 (a.length+1:Nat))) none none) h=K.f (aW b) h:=fun {h K}=>by
    rw [CB (by simp)];have:(a++w::b).drop (a.length+1)=b:=by rw [<- List.drop_drop,List.drop_left' rfl];rfl
    rw [this]
   simp only [ad,seval,axh,decide_eq_false (show ¬(a.length:Int)<0 by omega),sU,gm,e2,de,hA,v1,l7,bd,g2,decide_eq_true (show i+1<=vy.size by omega)];intro h3 e5;have g3:=cq e5;have bK:=fq mA hc e5;simp only [ad,seval,ha,sU,gm,hA,v2,tg];refine ⟨n- (i+1),by omega,i+1,b,rfl,by omega,rfl,e2,e3,de,by simp [ak,dw (x:=(i:Int)+1) (by omega) (by omega)],by omega,?_,bK,_,g3,by simp [pM],fun j ae f Re=> ?_⟩
   ·rw [<- List.drop_drop,hd];rfl
   ·rcases Nat.lt_or_eq_of_le (Nat.le_of_lt_succ ae) with q|q
    ·rw [Array.getElem?_setIfInBounds_ne (by omega)];exact aP j q f Re
    ·subst q;have:(sp w l)[j]? =some a:=by
      have:=congrArg (·[0]?) hd;simpa using this
     rw [this] at Re;cases Re;rw [Array.getElem?_setIfInBounds_self_of_lt (by omega)]
 ·have dF:i=n:=by omega
  subst dF;have gg:sp w r=[r]:=by
   have h1:=congrArg List.length hd;rw [Ob] at h1;simp only [List.length_drop,uR] at h1;have h2:r.count w=0:=by omega
   refine FQ fun x aa=> ?_;rw [List.count_eq_zero] at h2;rw [beq_eq_false_iff_ne];rintro rfl;exact h2 aa
  rw [gg] at hd;have bd:decide ((i:Int)<(i+1:Nat))=true:=by simp;omega
  have w4:IntKind.i64.wrap ((i:Int)+1)=(i+1:Nat):=by rw [dw (by omega) (by omega)];omega
  simp only [ad,seval,sU,e3,de,hA,decide_eq_false (show ¬(i:Int)<i by omega),bd,g2,decide_eq_true (show i+1<=vy.size by omega)];intro h3 e5;have g3:=cq e5;have bK:=fq mA hc e5;simp only [ad,seval,de,hA,w4];refine ary (l:=0) (hh:=i+1) Tryz.underlying98 mI (.inl ⟨_,rfl,by omega⟩) (.inr ⟨rfl,rfl⟩) (by omega) fun aO aQ=> ?_;have c9:=aQ (by omega);subst c9;simp only [ad,seval];refine bT Tryz.results160 (by simp) ⟨rfl,bK,⟨c,0,i+1,i+1,by simp [ak],Nat.le_refl _⟩,?_⟩;refine ⟨some ⟨c,0,none⟩,0,i+1,i+1,by simp [ak],by simp [uR],.inr ⟨c,rfl,_,_,_,_,g3,fun j row ae q x aa=> ?_⟩⟩;rw [List.getElem?_map] at ae;cases hs:(sp w l)[j]? with
  | none=>rw [hs] at ae;cases ae
  | some f=>
   rw [hs] at ae;cases ae;have AX:=(List.getElem?_eq_some_iff.1 hs).1;cases q with
   | succ q=>simp at aa
   | zero=>
    cases aa;rw [Nat.zero_add,Nat.mul_one,Nat.add_zero];rcases Nat.lt_or_ge j i with q|q
    ·rw [Array.getElem?_setIfInBounds_ne (by omega)];exact aP j q f hs
    ·have:j=i:=by omega
     subst this;have:(sp w l)[j]? =some r:=by
      have:=congrArg (·[0]?) hd;simpa using this
     rw [this] at hs;cases hs;rw [Array.getElem?_setIfInBounds_self_of_lt (by omega)]
theorem ajG{l:List UInt8}{w:UInt8}(af:l.length<=90000):bI Tryz.prog main S 113 #[aW l,aW [w]] s h fun ai h' v=>ai=s/\h.aD h'/\(∃m o n dS,v=eO m o n dS/\n<=dS)/\nZ h' v (sp w l):=by
 refine cc (args:=[aW l,aW [w]]) Tryz.func113 (by delta Tryz.f113;rfl) Tryz.ntmps113 (by simp) (by kernel_rfl) ?_;simp only [ad,seval];refine c0 call160 (ajF af) fun s2 h2 v ⟨an,az,⟨m,o,n,dS,e,ao⟩,aB⟩=> ?_;subst an;subst e;simp only [ad,seval];exact bT Tryz.results113 (by simp) ⟨rfl,az,⟨m,o,n,dS,by simp [ak],ao⟩,by simpa [ak] using aB⟩
theorem ajH{v:Value}{l:List (List UInt8)}{m:List UInt8}(aI:nZ h v l)(af:l.length<=90000)(hm:∀f∈l,f≠m):bI Tryz.prog main S 161 #[v,aW m] s h fun ai h' z=>ai=s/\h'=h/\z=.int .i64 (-1):=by
 refine cc (args:=[v,aW m]) Tryz.func161 (by delta Tryz.f161;rfl) Tryz.ntmps161 (by simp) (by kernel_rfl) ?_;obtain ⟨b,o,n,c,rfl,cR,hb⟩:=aI;simp only [List.length_map] at cR;subst cR;simp only [ad,seval];refine eG (I:=fun k e d cx aa=>∃i:Nat,k=l.length- i/\i<=l.length/\e 0=.slice b l.length c/\e 1=aW m/\e 7=.int .i64 l.length/\e 8=.int .i64 i/\d=[]/\cx=s/\aa=h) (fun k e d cx aa bU=> ?_) (m:=l.length) ⟨0,by simp,by simp,by simp [ak],by simp [ak],by simp [ak],by simp [ak],rfl,rfl,rfl⟩;obtain ⟨i,rfl,hi,e0,e1,e7,cH,rfl,rfl,rfl⟩:=bU;have gm:e 1=.string ⟨⟨m⟩⟩:=e1;rcases Nat.lt_or_ge i l.length with hc|hc
 ·obtain ⟨mb,rfl,arr,q,f,w,wi,al⟩:=hb.resolve_left (by omega);have g1:arr[o+i]? =some (.string ⟨⟨l[i]⟩⟩):=by simpa using al i [aW l[i]] (by simp [hc]) 0 _ rfl
  have bd:decide ((i:Int)<l.length)=true:=by simp;omega
  have ne:(m==l[i])=false:=by rw [beq_eq_false_iff_ne];exact fun e=>hm _ (List.getElem_mem hc) e.symm
  simp only [ad,seval,e0,gm,e7,cH,bd,wi,g1,ki,ne];exact ⟨l.length- (i+1),by omega,i+1,rfl,by omega,by simp [dw (x:=(i:Int)+1) (by omega) (by omega)]⟩
 ·have:i=l.length:=by omega
  subst this;simp only [ad,seval,e7,cH,decide_eq_false (show ¬((l.length:Nat):Int)<l.length by omega)];exact bT Tryz.results161 (by simp) ⟨rfl,rfl,by simp [ak]⟩
theorem adM{v:Value}{l:List (List UInt8)}{m:List UInt8}(aI:nZ h v l)(af:l.length<=90000)(hm:∀f∈l,f≠m):bI Tryz.prog main S 114 #[v,aW m] s h fun ai h' z=>ai=s/\h'=h/\z=.bool false:=by
 refine cc (args:=[v,aW m]) Tryz.func114 (by delta Tryz.f114;rfl) Tryz.ntmps114 (by simp) (by kernel_rfl) ?_;obtain ⟨b,o,n,c,aS,_⟩:=id aI;rw [aS] at aI ⊢;simp only [ad,seval];refine c0 call161 (ajH aI af hm) fun s2 h2 z ⟨an,az,aB⟩=> ?_;subst an;subst az;subst aB;simp only [ad,seval];exact bT Tryz.results114 (by simp) ⟨rfl,rfl,by simp [ak]⟩
end
section
variable{P:Program}{h:ab}{t:Nat}{ms:Array (String×TypeId)}{x:Operand}
theorem XQ(aj:P.underlying t=some (.interface ms)){Q:Bool->ab->Prop}:bf P (Op.equal t .nilIface .nilIface) h Q=Q true h:=by
 rw [yX];generalize 9999=d;rw [Op.equalIn];simp only [aV,df,aj];rfl
theorem ao5(aj:P.underlying t=some (.interface ms))[K:KK Value]:au P (cr .neq t x (.const .nilIface) .nilIface .nilIface) h=K.f (.bool false) h:=by
 have q:(do eqGuard .neq t x (.const .nilIface) .nilIface .nilIface;binOp .neq t .nilIface .nilIface:Sem Value)=(do pure (.bool (!(<- Op.equal t .nilIface .nilIface)))):=by
  have:eqGuard .neq t x (.const .nilIface) .nilIface .nilIface=pure ():=by
   unfold eqGuard;simp only [Bool.or_true,if_true];rfl
  rw [this];rfl
 unfold au cr;rw [q,aV,XQ aj,bh];rfl
theorem ao6(aj:P.underlying t=some (.interface ms))[K:KK Value]:au P (cr .eql t x (.const .nilIface) .nilIface .nilIface) h=K.f (.bool true) h:=by
 have q:(do eqGuard .eql t x (.const .nilIface) .nilIface .nilIface;binOp .eql t .nilIface .nilIface:Sem Value)=(do pure (.bool (<- Op.equal t .nilIface .nilIface))):=by
  have:eqGuard .eql t x (.const .nilIface) .nilIface .nilIface=pure ():=by
   unfold eqGuard;simp only [Bool.or_true,if_true];rfl
  rw [this];rfl
 unfold au cr;rw [q,aV,XQ aj,bh]
end
section
variable{h:ab}
def isIf(d:Option TypeDesc):Bool:=match d with|some (.interface _)=>true|_=>false
theorem amF{d:Option TypeDesc}(h:isIf d=true):∃ms,d=some (.interface ms):=by
 unfold isIf at h;split at h
 ·exact ⟨_,rfl⟩
 ·cases h
theorem Ym:∃ms,Tryz.prog.underlying 91=some (.interface ms):=amF (by kernel_rfl)
theorem tR{x:Operand}[K:KK Value]:au Tryz.prog (cr .neq 91 x (.const .nilIface) .nilIface .nilIface) h=K.f (.bool false) h:=let ⟨_,e⟩:=Ym;ao5 e
theorem Zh{x:Operand}[K:KK Value]:au Tryz.prog (cr .eql 91 x (.const .nilIface) .nilIface .nilIface) h=K.f (.bool true) h:=let ⟨_,e⟩:=Ym;ao6 e
theorem ao7{l:List UInt8}{main:Bool}{ah:Type}{S:Sys ah}{fb:bn}{s:ah}{K:ah->ab->Value->Prop}(k:∀c h1 cap rest f,h c=none->h1=h.put c ⟨.cells ⟨bv l++rest⟩ 5 f,true⟩->K s h1 (eO c 0 l.length cap)):@iJ Tryz.prog main _ S fb 9 87 (aW l) s h ⟨K⟩:=by
 show @au Tryz.prog _ (convert 9 87 (aW l)) h ⟨fun v h=>K s h v⟩;simp only [au,convert,aV,df,Tryz.underlying9,Tryz.underlying87,Tryz.underlying5,Conv.stringToBytes,yS,Question.forced,Bool.false_eq_true,if_false];intro t;simp only [newRow,aV,qX,bh];intro c hc;have em:((⟨⟨l⟩⟩:ByteArray).data.map fun b=>Value.int .u8 b.toNat)=⟨bv l⟩:=by apply Array.toList_inj.1;simp [bv]
 rw [em];generalize (Array.replicate _ (Value.int .u8 0):Array Value)=rest;have e2:(⟨bv l⟩++rest:Array Value)=⟨bv l++rest.toList⟩:=by apply Array.toList_inj.1;simp
 rw [e2];have g:(h.put c ⟨.cells ⟨bv l++rest.toList⟩ 5 (0,0),true⟩) c=some ⟨.cells ⟨bv l++rest.toList⟩ 5 (0,0),true⟩:=dd;simp only [markStringish,aV];rw [Br g];have f0:∀(n:Nat) (Q:Unit->ab->Prop),bf Tryz.prog (freeze ⟨c,n,none⟩ 1) (h.put c ⟨.cells ⟨bv l++rest.toList⟩ 5 (0,0),true⟩) Q=Q () (h.put c ⟨.cells ⟨bv l++rest.toList⟩ 5 (n,n+1),true⟩):=fun n Q=>by
  simp [freeze,bf,ab.owns,ab.shape?,g,ab.freeze,qc]
 simp only [aV,f0,bh];exact k c _ _ rest.toList _ hc rfl
theorem Yn{x:Int}(h1: -1000000000000<=x)(h2:x<=1000000000000):IntKind.i64.wrap x=x:=by
 simp only [IntKind.wrap,IntKind.bits,IntKind.signed];simp;omega
end
def ja(l:List UInt8):Nat:=l.foldl (fun a x=>a*10+(x.toNat- 48)) 0
theorem Vr(l:List UInt8)(x:UInt8):ja (l++[x])=ja l*10+(x.toNat- 48):=by simp [ja]
theorem wQ{x:UInt8}:kM x=true↔48<=x.toNat/\x.toNat<=57:=by simp [kM];omega
theorem WG{l:List UInt8}(h:∀x∈l,kM x=true):∀i,i<=l.length->ja (l.take i)<10^i
 | 0,_=>by simp [ja]
 | i+1,hi=>by
  have aN:=WG h i (by omega);have aa:=wQ.1 (h l[i] (List.getElem_mem (by omega)));have e:l.take (i+1)=l.take i++[l[i]]:=by rw [List.take_add_one];simp [show i<l.length by omega]
  rw [e,Vr,Nat.pow_succ];omega
section
variable{main:Bool}{ah:Type}{S:Sys ah}{s:ah}{h:ab}
theorem call193:bP Tryz.prog 193=true:=by kernel_rfl
theorem call164:bP Tryz.prog 164=true:=by kernel_rfl
theorem call116:bP Tryz.prog 116=true:=by kernel_rfl
theorem agP{w:Bool}:CV undef w=false:=rfl
theorem arA{x:UInt8}(h:48<=x.toNat):IntKind.u8.wrap ((x.toNat:Int)- 48)=((x.toNat- 48:Nat):Int):=by
 have:=x.toNat_lt;simp only [IntKind.wrap,IntKind.bits,IntKind.signed];simp;omega
theorem amG{l:List UInt8}(hd:∀x∈l,kM x=true)(h1:1<=l.length)(h2:l.length<=9):bI Tryz.prog main S 193 #[aW l] s h fun ai h' v=>ai=s/\h.aD h'/\v=.tuple #[.int .i64 (ja l),.nilIface]:=by
 refine cc (args:=[aW l]) Tryz.func193 (by delta Tryz.f193;rfl) Tryz.ntmps193 (by simp) (by kernel_rfl) ?_;have uK:l[0]? =some l[0]:=by simp
 have d0:=wQ.1 (hd l[0] (List.getElem_mem _));have an:((l[0].toNat:Int)==45)=false:=by simp;omega
 have az:((l[0].toNat:Int)==43)=false:=by simp;omega
 generalize l[0]=k2 at uK d0 an az;simp only [ad,seval,ha,decide_eq_true (show (0:Int)<l.length by omega),decide_eq_true (show (l.length:Int)<19 by omega),decide_eq_true (show (l.length:Int)<10 by omega),kj,uK,nV,an,az,agP];refine ao7 fun c h1 cap rest f hc e1=> ?_;have bx:=cS hc e1;have g1:=cq e1;simp only [ad,seval];refine eG (I:=fun k e d cx aa=>∃i:Nat,k=l.length- i/\i<=l.length/\e 5=aW l/\e 6=.int .i64 (ja (l.take i))/\e 47=eO c 0 l.length cap/\e 48=.int .i64 l.length/\e 49=.int .i64 i/\d=[]/\cx=s/\aa=h1) (fun k e d cx aa bU=> ?_) (m:=l.length) ⟨0,by simp,by simp,by simp [ak],by simp [ak,ja],by simp [ak],by simp [ak],by simp [ak],rfl,rfl,rfl⟩;obtain ⟨i,rfl,hi,e5,e6,Qy,aa2,aa3,rfl,rfl,rfl⟩:=bU;have azG:=WG hd i hi;have np:(10:Nat)^i<=10^9:=Nat.pow_le_pow_right (by omega) (by omega);rcases Nat.lt_or_ge i l.length with cN|cN
 ·have bd:decide ((i:Int)<l.length)=true:=by simp;omega
  have a1:(⟨bv l++rest⟩:Array Value)[i]? =some (.int .u8 (l[i].toNat:Nat)):=by
   rw [List.getElem?_toArray,List.getElem?_append_left (by rw [zN];omega)];simp [bv,cN]
  have acy:=wQ.1 (hd l[i] (List.getElem_mem _));have Ea:ja (l.take (i+1))=ja (l.take i)*10+(l[i].toNat- 48):=by
   have:l.take (i+1)=l.take i++[l[i]]:=by rw [List.take_add_one];simp [cN]
   rw [this,Vr]
  generalize l[i]=x at a1 acy Ea;generalize ja (l.take i)=n at azG e6 Ea;have w1:IntKind.i64.wrap (((n:Nat):Int)*10)=((n*10:Nat):Int):=by rw [Yn (by omega) (by omega)];omega
  have w2:IntKind.i64.wrap (((x.toNat- 48:Nat):Int))=((x.toNat- 48:Nat):Int):=dw (by omega) (by omega);have w3:IntKind.i64.wrap (((n*10:Nat):Int)+((x.toNat- 48:Nat):Int))=((n*10+(x.toNat- 48):Nat):Int):=by rw [Yn (by omega) (by omega)];omega
  simp only [ad,seval,e6,Qy,aa2,aa3,bd,g1,a1,arA acy.1,decide_eq_false (show ¬((x.toNat- 48:Nat):Int)>9 by omega),w1,aaS,w2,w3];exact ⟨l.length- (i+1),by omega,i+1,rfl,by omega,e5,by rw [Ea],by simp [dw (x:=(i:Int)+1) (by omega) (by omega)]⟩
 ·have:i=l.length:=by omega
  subst this;rw [List.take_length] at e6;have lp:e 5=.string ⟨⟨l⟩⟩:=e5;simp only [ad,seval,lp,e6,aa2,aa3,decide_eq_false (show ¬((l.length:Nat):Int)<l.length by omega),kj,uK,nV,an];exact ny Tryz.results193 (by simp) (by simp) ⟨rfl,bx,by simp [ak]⟩
theorem WH{l:List UInt8}(hd:∀x∈l,kM x=true)(h1:1<=l.length)(h2:l.length<=9):bI Tryz.prog main S 164 #[aW l] s h fun ai h' v=>ai=s/\h.aD h'/\v=.tuple #[.int .i64 (ja l),.nilIface]:=by
 refine cc (args:=[aW l]) Tryz.func164 (by delta Tryz.f164;rfl) Tryz.ntmps164 (by simp) (by kernel_rfl) ?_;simp only [ad,seval];refine c0 call193 (amG hd h1 h2) fun s2 h2 v ⟨an,az,aB⟩=> ?_;subst an;subst aB;simp only [ad,seval,fG,tR];exact ny Tryz.results164 (by simp) (by simp) ⟨rfl,az,by simp [ak]⟩
end
end
end Go.Nk
