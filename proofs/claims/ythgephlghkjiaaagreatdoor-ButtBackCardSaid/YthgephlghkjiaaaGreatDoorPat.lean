/- Part Pat of the proof of ButtBack: lemmas. -/
import Derived.Test.YthgephlghkjiaaaGreatDoorPas
set_option maxRecDepth 100000
set_option maxHeartbeats 4000000
set_option linter.all false
namespace Go.Nk
noncomputable section
open Go Go.Conc Go.Proofs
section
variable{main:Bool}{ah:Type}{S:Sys ah}{s:ah}{h:ab}
theorem call12:bP Tryz.prog 12=true:=by kernel_rfl
theorem ab.aD.lC(h:ab):h.aD h:=fun _ _ q=>q
theorem ab.aD.aU{h h' oT:ab}(p:h.aD h')(q:h'.aD oT):h.aD oT:=fun b x e=>q b x (p b x e)
theorem dx.one{v:Value}{vs:List Value}(q:dx h v 1 (vs.map fun x=>[x])):∃b o c,v=.slice b vs.length c/\(vs.length=0\/∃m,b=some ⟨m,o,none⟩/\∃arr q f w,h m=some ⟨.cells arr q f,w⟩/\∀i (hi:i<vs.length),arr[o+i]? =some vs[i]):=by
 obtain ⟨b,o,n,c,rfl,cR,hb⟩:=q;simp only [List.length_map] at cR;subst cR;refine ⟨b,o,c,rfl,hb.imp id fun ⟨m,e,arr,q,f,w,hm,al⟩=>⟨m,e,arr,q,f,w,hm,fun i hi=> ?_⟩⟩;have:=al i [vs[i]] (by simp [hi]) 0 vs[i] rfl;simpa using this
theorem Tk{v w:Value}{x y:ej}(aI:mh h v x)(hw:mh h w y)(af:x.cI.length<=1000/\x.cO.length<=1000)(hi:(∀l∈x.cI,l.length<=1000)/\∀l∈x.cO,l.length<=1000):
  bI Tryz.prog main S 12 #[v,w] s h fun ai h' z=>ai=s/\h.aD h'/\z=.bool (x.fN==y.fN&&(x.fH==y.fH&&(x.cI==y.cI&&x.cO==y.cO))):=by
 refine cc (args:=[v,w]) Tryz.func12 (by delta Tryz.f12;rfl) Tryz.ntmps12 (by simp) (by kernel_rfl) ?_;obtain ⟨v1,v2,rfl,⟨vs,hZ,j2⟩,⟨us,mz,pM⟩⟩:=aI;obtain ⟨w1,w2,rfl,⟨ev,Dn,jc⟩,⟨ln,lk,hY⟩⟩:=hw;obtain ⟨p,o,c,rfl,aK⟩:=hZ.one;obtain ⟨dc,aO,b2,rfl,Q1⟩:=Dn.one;obtain ⟨r,u,d,rfl,al⟩:=mz.one;obtain ⟨ly,s9,gE,rfl,eu⟩:=lk.one;simp only [ad,seval,b4];intro c1 h1 fe e1 c2 h2 cN e2;have bM:=(cS fe e1).aU (cS cN e2);have g1:=cS cN e2 _ _ (cq e1);have g2:=cq e2;simp only [ad,seval,g1,g2];have done:∀(q:Bool) (e:Env) (h3:ab),h.aD h3->e 4=.bool q->(x.fN==y.fN&&(x.fH==y.fH&&(x.cI==y.cI&&x.cO==y.cO)))=q->
   er Tryz.prog Tryz.f12 (fun ai h' z=>ai=s/\h.aD h'/\z=.bool (x.fN==y.fN&&(x.fH==y.fH&&(x.cI==y.cI&&x.cO==y.cO)))) 79 e [] s h3:=fun q e h3 fP e4 aE=>
  bT Tryz.results12 (by simp) ⟨rfl,fP,by rw [e4,aE]⟩
 by_cases db:x.fN=y.fN
 case neg=>
  have e:(x.fN != y.fN)=true:=by simpa using db
  simp only [ad,seval,e];exact done false _ _ bM (by simp [ak]) (by simp [db])
 have e:(x.fN != y.fN)=false:=by simpa using db
 simp only [ad,seval,e,g1,g2];by_cases dB:x.fH=y.fH
 case neg=>
  have e:(x.fH != y.fH)=true:=by simpa using dB
  simp only [ad,seval,e];exact done false _ _ bM (by simp [ak]) (by simp [dB])
 have e:(x.fH != y.fH)=false:=by simpa using dB
 simp only [ad,seval,e,g1,g2];have nk:=j2.1;have aw0:=jc.1;have ls:=pM.1;have aw1:=hY.1;by_cases n3:vs.length=ev.length
 case neg=>
  have e:((vs.length:Int) != ev.length)=true:=by simp;omega
  simp only [ad,seval,e];have:(x.cI==y.cI)=false:=by rw [beq_eq_false_iff_ne];intro q;rw [q] at nk;omega
  exact done false _ _ bM (by simp [ak]) (by simp [this])
 have e:((vs.length:Int) != ev.length)=false:=by simp;omega
 simp only [ad,seval,e,g1,g2];by_cases n4:us.length=ln.length
 case neg=>
  have e:((us.length:Int) != ln.length)=true:=by simp;omega
  simp only [ad,seval,e];have:(x.cO==y.cO)=false:=by rw [beq_eq_false_iff_ne];intro q;rw [q] at ls;omega
  exact done false _ _ bM (by simp [ak]) (by simp [this])
 have e:((us.length:Int) != ln.length)=false:=by simp;omega
 simp only [ad,seval,e];refine eG (I:=fun k e d ai h'=>∃i:Nat,k=vs.length- i/\i<=vs.length/\e 2=bL c1 0/\e 3=bL c2 0/\e 5=.int .i64 i/\d=[]/\ai=s/\h2.aD h'/\x.cI.take i=y.cI.take i) (fun k e d ai h' bU=> ?_) (m:=vs.length) ⟨0,by simp,by omega,by simp [ak],by simp [ak],by simp [ak],rfl,rfl,fun _ _ q=>q,by simp⟩;obtain ⟨i,rfl,na,dP,fO,e5,rfl,rfl,bz,aA⟩:=bU;have k1:=bz _ _ g1;have bX:=bz _ _ g2;simp only [ad,seval,dP,fO,e5,k1,bX];rcases Nat.lt_or_ge i vs.length with hc|hc
 ·simp only [ad,seval,decide_eq_true (show (i:Int)<vs.length by omega),kJ];obtain ⟨mb,rfl,arr,q,f,w,hm,gg⟩:=aK.resolve_left (by omega);obtain ⟨rH,rfl,vD,j6,pR,w',mr,Cv⟩:=Q1.resolve_left (by omega);have eY:i<ev.length:=by omega
  have f1:=gg i hc;have f2:=Cv i eY;have dL:∀h,h'.aD h->h mb=_:=fun h le=>le _ _ (bz _ _ (bM _ _ hm));have pL:∀h,h'.aD h->h rH=_:=fun h le=>le _ _ (bz _ _ (bM _ _ mr));have gc:∀h,h'.aD h->h c1=_:=fun h le=>le _ _ k1;have pN:∀h,h'.aD h->h c2=_:=fun h le=>le _ _ bX;have bd:decide ((i:Int)<vs.length)=true:=by simp;omega
  have j1:decide ((i:Int)<ev.length)=true:=by simp;omega
  have aa:i<x.cI.length:=by omega
  have ax:i<y.cI.length:=by omega
  have A:=j2.2 i vs[i] x.cI[i] (by simp) (by simp);have B:=jc.2 i ev[i] y.cI[i] (by simp) (by simp);obtain ⟨a1,o1,hr,d1,aS,_⟩:=id A;obtain ⟨aw2,aw3,aw4,aw5,yb,_⟩:=id B;intro t;refine p8 hR (by kernel_rfl) (by kernel_rfl) ?_ t
  repeat refine lF (fun h1 le=>by simp only [ad,seval,et,le,dP,fO,e5,dL,pL,gc,pN,f1,f2,bd,j1,aS,yb];exact ⟨fun _ _ q=>q,rfl⟩) ?_
  refine lF (v:=.bool (x.cI[i]==y.cI[i])) (fun h3 bK=> ?_) ?_
  ·simp only [ad,seval,et];rw [aS] at A;rw [yb] at B;exact c0 call31 (aem (dx.le (bM.aU (bz.aU bK)) A) (dx.le (bM.aU (bz.aU bK)) B) (hi.1 _ (List.getElem_mem _))) fun fQ h4 v ⟨r1,r2,r3⟩=>⟨r1,r2,r3⟩
  repeat refine lF (fun h1 le=>by simp only [ad,seval,et,le,dP,fO,e5,dL,pL,gc,pN,f1,f2,bd,j1,aS,yb];exact ⟨fun _ _ q=>q,rfl⟩) ?_
  rw [pt];intro h3 bK;by_cases aE:x.cI[i]=y.cI[i]
  ·have ex:(x.cI[i]==y.cI[i])=true:=by simpa using aE
   simp only [ad,seval,ex,e5];refine ⟨_,?_,i+1,rfl,by omega,by simp [ak,dP],by simp [ak,fO],by simp [ak,dw (x:=(i:Int)+1) (by omega) (by omega)],bz.aU bK,?_⟩
   ·omega
   ·rw [List.take_add_one,List.take_add_one,aA];simp [aa,ax,aE]
  ·have ex:(x.cI[i]==y.cI[i])=false:=by simpa using aE
   simp only [ad,seval,ex];have:(x.cI==y.cI)=false:=by
    rw [beq_eq_false_iff_ne];intro q;exact aE (by simp [q])
   exact done false _ _ (bM.aU (bz.aU bK)) (by simp [ak]) (by simp [this])
 ·simp only [ad,seval,decide_eq_false (show ¬(i:Int)<vs.length by omega)];have dt:i=vs.length:=by omega
  rw [dt,nk,List.take_length,<- nk,n3,aw0,List.take_length] at aA;have bM:=bM.aU bz;have g1:=k1;have g2:=bX;generalize uF:h'=h2 at bM g1 g2 ⊢;clear uF k1 bX;refine eG (I:=fun k e d cx aa=>∃i:Nat,k=us.length- i/\i<=us.length/\e 2=bL c1 0/\e 3=bL c2 0/\e 6=.int .i64 i/\d=[]/\cx=ai/\h2.aD aa/\x.cO.take i=y.cO.take i) (fun k e d ai h' bU=> ?_) (m:=us.length) ⟨0,by simp,by omega,by simp [ak,dP],by simp [ak,fO],by simp [ak],rfl,rfl,fun _ _ q=>q,by simp⟩;obtain ⟨i,rfl,na,dP,fO,e5,rfl,rfl,bz,aA⟩:=bU;have k1:=bz _ _ g1;have bX:=bz _ _ g2;simp only [ad,seval,dP,fO,e5,k1,bX];rcases Nat.lt_or_ge i us.length with hc|hc
  ·simp only [ad,seval,decide_eq_true (show (i:Int)<us.length by omega),kJ];obtain ⟨mb,rfl,arr,q,f,w,hm,l2⟩:=al.resolve_left (by omega);obtain ⟨rH,rfl,vD,j6,pR,w',mr,atD⟩:=eu.resolve_left (by omega);have eY:i<ln.length:=by omega
   have f1:=l2 i hc;have f2:=atD i eY;have dL:∀h,h'.aD h->h mb=_:=fun h le=>le _ _ (bz _ _ (bM _ _ hm));have pL:∀h,h'.aD h->h rH=_:=fun h le=>le _ _ (bz _ _ (bM _ _ mr));have gc:∀h,h'.aD h->h c1=_:=fun h le=>le _ _ k1;have pN:∀h,h'.aD h->h c2=_:=fun h le=>le _ _ bX;have bd:decide ((i:Int)<us.length)=true:=by simp;omega
   have j1:decide ((i:Int)<ln.length)=true:=by simp;omega
   have aa:i<x.cO.length:=by omega
   have ax:i<y.cO.length:=by omega
   have A:=pM.2 i us[i] x.cO[i] (by simp) (by simp);have B:=hY.2 i ln[i] y.cO[i] (by simp) (by simp);obtain ⟨a1,o1,hr,d1,aS,_⟩:=id A;obtain ⟨aw2,aw3,aw4,aw5,yb,_⟩:=id B;intro t;refine p8 hR (by kernel_rfl) (by kernel_rfl) ?_ t
   repeat refine lF (fun h1 le=>by simp only [ad,seval,et,le,dP,fO,e5,dL,pL,gc,pN,f1,f2,bd,j1,aS,yb];exact ⟨fun _ _ q=>q,rfl⟩) ?_
   refine lF (v:=.bool (x.cO[i]==y.cO[i])) (fun h3 bK=> ?_) ?_
   ·simp only [ad,seval,et];rw [aS] at A;rw [yb] at B;exact c0 call46 (adF (dx.le (bM.aU (bz.aU bK)) A) (dx.le (bM.aU (bz.aU bK)) B) (hi.2 _ (List.getElem_mem _))) fun fQ h4 v ⟨r1,r2,r3⟩=>⟨r1,r2,r3⟩
   repeat refine lF (fun h1 le=>by simp only [ad,seval,et,le,dP,fO,e5,dL,pL,gc,pN,f1,f2,bd,j1,aS,yb];exact ⟨fun _ _ q=>q,rfl⟩) ?_
   rw [pt];intro h3 bK;by_cases aE:x.cO[i]=y.cO[i]
   ·have ex:(x.cO[i]==y.cO[i])=true:=by simpa using aE
    simp only [ad,seval,ex,e5];refine ⟨_,?_,i+1,rfl,by omega,by simp [ak,dP],by simp [ak,fO],by simp [ak,dw (x:=(i:Int)+1) (by omega) (by omega)],bz.aU bK,?_⟩
    ·omega
    ·rw [List.take_add_one,List.take_add_one,aA];simp [aa,ax,aE]
   ·have ex:(x.cO[i]==y.cO[i])=false:=by simpa using aE
    simp only [ad,seval,ex];have:(x.cO==y.cO)=false:=by
     rw [beq_eq_false_iff_ne];intro q;exact aE (by simp [q])
    exact done false _ _ (bM.aU (bz.aU bK)) (by simp [ak]) (by simp [this])
  ·simp only [ad,seval,decide_eq_false (show ¬(i:Int)<us.length by omega)];have dt:i=us.length:=by omega
   rw [dt,ls,List.take_length,<- ls,n4,aw1,List.take_length] at aA;exact done true _ _ (bM.aU bz) (by simp [ak]) (by simp [db,dB,aA, *])
end
section
variable{main:Bool}{ah:Type}{S:Sys ah}{s:ah}{h:ab}
theorem call13:bP Tryz.prog 13=true:=by kernel_rfl
theorem aqX{x y:Operand}{a b:iB}[K:KK Value]:au Tryz.prog (cr .neq 51 x y (.agg #[aW a.name,.int .i64 a.dQ,.int .i64 a.size,.int .i64 a.iG]) (.agg #[aW b.name,.int .i64 b.dQ,.int .i64 b.size,.int .i64 b.iG])) h=K.f (.bool (!xq a b)) h:=atA
theorem aqY{x y:Operand}{a b:je}[K:KK Value]:au Tryz.prog (cr .neq 53 x y (.agg #[aW a.name,.int .i64 a.size,.int .i64 a.gM,.int .i64 a.dQ]) (.agg #[aW b.name,.int .i64 b.size,.int .i64 b.gM,.int .i64 b.dQ])) h=K.f (.bool (!xr a b)) h:=atB
theorem dx.four{α:Type}{v:Value}{l:List α}{f0 f1 f2 f3:α->Value}(q:dx h v 4 (l.map fun x=>[f0 x,f1 x,f2 x,f3 x])):∃b o c,v=.slice b l.length c/\(l.length=0\/∃m,b=some ⟨m,o,none⟩/\∃arr q f w,h m=some ⟨.cells arr q f,w⟩/\∀i (hi:i<l.length),arr[o+i*4]? =some (f0 l[i])/\arr[o+i*4+1]? =some (f1 l[i])/\arr[o+i*4+2]? =some (f2 l[i])/\arr[o+i*4+3]? =some (f3 l[i])):=by
 obtain ⟨b,o,n,c,rfl,cR,hb⟩:=q;simp only [List.length_map] at cR;subst cR;refine ⟨b,o,c,rfl,hb.imp id fun ⟨m,e,arr,q,f,w,hm,al⟩=>⟨m,e,arr,q,f,w,hm,fun i hi=> ?_⟩⟩;have:=al i [f0 l[i],f1 l[i],f2 l[i],f3 l[i]] (by simp [hi]);exact ⟨this 0 _ rfl,this 1 _ rfl,this 2 _ rfl,this 3 _ rfl⟩
theorem SH{v w:Value}{x y:Ground}(aI:lG h v x)(hw:lG h w y)(af:x.dT.length<=1000/\x.ei.length<=1000):
  bI Tryz.prog main S 13 #[v,w] s h fun ai h' z=>ai=s/\h.aD h'/\(z=.bool true/\x.dT=y.dT/\x.ei=y.ei\/z=.bool false/\¬(x.dT=y.dT/\x.ei=y.ei)):=by
 refine cc (args:=[v,w]) Tryz.func13 (by delta Tryz.f13;rfl) Tryz.ntmps13 (by simp) (by kernel_rfl) ?_;obtain ⟨v1,v2,rfl,hZ,mz⟩:=aI;obtain ⟨w1,w2,rfl,Dn,lk⟩:=hw;obtain ⟨p,o,c,rfl,aK⟩:=hZ.four;obtain ⟨dc,aO,b2,rfl,Q1⟩:=Dn.four;obtain ⟨r,u,d,rfl,al⟩:=mz.four;obtain ⟨ly,s9,gE,rfl,eu⟩:=lk.four;generalize pO:x.dT=vs at*
 generalize Dp:x.ei=us at*
 generalize aA8:y.dT=ev at*
 generalize aA9:y.ei=ln at*
 simp only [ad,seval,b4];intro c1 h1 fe e1 c2 h2 cN e2;have bM:=(cS fe e1).aU (cS cN e2);have g1:=cS cN e2 _ _ (cq e1);have g2:=cq e2;simp only [ad,seval,g1,g2];have done:∀(q:Bool) (e:Env) (h3:ab),h.aD h3->e 4=.bool q->(q=true↔(vs=ev/\us=ln))->
   er Tryz.prog Tryz.f13 (fun ai h' z=>ai=s/\h.aD h'/\(z=.bool true/\vs=ev/\us=ln\/z=.bool false/\¬(vs=ev/\us=ln))) 59 e [] s h3:=fun q e h3 fP e4 aE=>
  bT Tryz.results13 (by simp) ⟨rfl,fP,by rw [e4];cases q<;>simp at aE ⊢ <;>exact aE⟩
 by_cases n3:vs.length=ev.length
 case neg=>
  have e:((vs.length:Int) != ev.length)=true:=by simp;omega
  simp only [ad,seval,e];exact done false _ _ bM (by simp [ak]) (by simp;intro q;exact (n3 (by rw [q])).elim)
 have e:((vs.length:Int) != ev.length)=false:=by simp;omega
 simp only [ad,seval,e,g1,g2];by_cases n4:us.length=ln.length
 case neg=>
  have e:((us.length:Int) != ln.length)=true:=by simp;omega
  simp only [ad,seval,e];exact done false _ _ bM (by simp [ak]) (by simp;intro _ q;exact (n4 (by rw [q])).elim)
 have e:((us.length:Int) != ln.length)=false:=by simp;omega
 simp only [ad,seval,e];refine eG (I:=fun k e d cx aa=>∃i:Nat,k=vs.length- i/\i<=vs.length/\e 2=bL c1 0/\e 3=bL c2 0/\e 5=.int .i64 i/\d=[]/\cx=s/\h2.aD aa/\vs.take i=ev.take i) (fun k e d cx aa bU=> ?_) (m:=vs.length) ⟨0,by simp,by omega,by simp [ak],by simp [ak],by simp [ak],rfl,rfl,fun _ _ q=>q,by simp⟩;obtain ⟨i,rfl,na,dP,fO,e5,rfl,fF,bz,aA⟩:=bU;subst fF;have k1:=bz _ _ g1;have bX:=bz _ _ g2;simp only [ad,seval,dP,fO,e5,k1,bX];rcases Nat.lt_or_ge i vs.length with hc|hc
 ·simp only [ad,seval,decide_eq_true (show (i:Int)<vs.length by omega),kJ];obtain ⟨mb,rfl,arr,q,f,w,hm,gg⟩:=aK.resolve_left (by omega);obtain ⟨rH,rfl,vD,j6,pR,w',mr,Cv⟩:=Q1.resolve_left (by omega);have eY:i<ev.length:=by omega
  obtain ⟨a0,a1,a2,a3⟩:=gg i hc;obtain ⟨b0,cl,bV,dz⟩:=Cv i eY;simp only [b4] at a1 a2 a3 cl bV dz;have dL:∀h,aa.aD h->h mb=_:=fun h le=>le _ _ (bz _ _ (bM _ _ hm));have pL:∀h,aa.aD h->h rH=_:=fun h le=>le _ _ (bz _ _ (bM _ _ mr));have gc:∀h,aa.aD h->h c1=_:=fun h le=>le _ _ k1;have pN:∀h,aa.aD h->h c2=_:=fun h le=>le _ _ bX;have bd:decide ((i:Int)<vs.length)=true:=by simp;omega
  have j1:decide ((i:Int)<ev.length)=true:=by simp;omega
  intro t;refine p8 hR (by kernel_rfl) (by kernel_rfl) ?_ t
  repeat refine lF (fun h1 le=>by simp only [ad,seval,et,le,dP,fO,e5,dL,pL,gc,pN,a0,a1,a2,a3,b0,cl,bV,dz,bd,j1,aqX];exact ⟨fun _ _ q=>q,rfl⟩) ?_
  rw [pt];intro h3 bK;by_cases aE:vs[i]=ev[i]
  ·have ex:(!xq vs[i] ev[i])=false:=by rw [T7.2 aE];rfl
   simp only [ad,seval,ex,e5];refine ⟨_,?_,i+1,rfl,by omega,by simp [ak,dP],by simp [ak,fO],by simp [ak,dw (x:=(i:Int)+1) (by omega) (by omega)],bz.aU bK,?_⟩
   ·omega
   ·rw [List.take_add_one,List.take_add_one,aA];simp [hc,eY,aE]
  ·have ex:(!xq vs[i] ev[i])=true:=by
    have:xq vs[i] ev[i]=false:=by rw [<- Bool.not_eq_true,T7];exact aE
    simp [this]
   simp only [ad,seval,ex];exact done false _ _ (bM.aU (bz.aU bK)) (by simp [ak]) (by simp;intro q;exact (aE (by simp [q])).elim)
 ·simp only [ad,seval,decide_eq_false (show ¬(i:Int)<vs.length by omega)];have dt:i=vs.length:=by omega
  rw [dt,List.take_length,n3,List.take_length] at aA;have bM:=bM.aU bz;have g1:=k1;have g2:=bX;generalize uF:aa=h2 at bM g1 g2 ⊢;clear uF k1 bX;refine eG (I:=fun k e d s2 aa=>∃i:Nat,k=us.length- i/\i<=us.length/\e 2=bL c1 0/\e 3=bL c2 0/\e 6=.int .i64 i/\d=[]/\s2=cx/\h2.aD aa/\us.take i=ln.take i) (fun k e d s2 aa bU=> ?_) (m:=us.length) ⟨0,by simp,by omega,by simp [ak,dP],by simp [ak,fO],by simp [ak],rfl,rfl,fun _ _ q=>q,by simp⟩;obtain ⟨i,rfl,na,dP,fO,e5,rfl,fF,bz,m1⟩:=bU;subst fF;have k1:=bz _ _ g1;have bX:=bz _ _ g2;simp only [ad,seval,dP,fO,e5,k1,bX];rcases Nat.lt_or_ge i us.length with hc|hc
  ·simp only [ad,seval,decide_eq_true (show (i:Int)<us.length by omega),kJ];obtain ⟨mb,rfl,arr,q,f,w,hm,gg⟩:=al.resolve_left (by omega);obtain ⟨rH,rfl,vD,j6,pR,w',mr,Cv⟩:=eu.resolve_left (by omega);have eY:i<ln.length:=by omega
   obtain ⟨a0,a1,a2,a3⟩:=gg i hc;obtain ⟨b0,cl,bV,dz⟩:=Cv i eY;simp only [b4] at a1 a2 a3 cl bV dz;have dL:∀h,aa.aD h->h mb=_:=fun h le=>le _ _ (bz _ _ (bM _ _ hm));have pL:∀h,aa.aD h->h rH=_:=fun h le=>le _ _ (bz _ _ (bM _ _ mr));have gc:∀h,aa.aD h->h c1=_:=fun h le=>le _ _ k1;have pN:∀h,aa.aD h->h c2=_:=fun h le=>le _ _ bX;have bd:decide ((i:Int)<us.length)=true:=by simp;omega
   have j1:decide ((i:Int)<ln.length)=true:=by simp;omega
   intro t;refine p8 hR (by kernel_rfl) (by kernel_rfl) ?_ t
   repeat refine lF (fun h1 le=>by simp only [ad,seval,et,le,dP,fO,e5,dL,pL,gc,pN,a0,a1,a2,a3,b0,cl,bV,dz,bd,j1,aqY];exact ⟨fun _ _ q=>q,rfl⟩) ?_
   rw [pt];intro h3 bK;by_cases aE:us[i]=ln[i]
   ·have ex:(!xr us[i] ln[i])=false:=by rw [T8.2 aE];rfl
    simp only [ad,seval,ex,e5];refine ⟨_,?_,i+1,rfl,by omega,by simp [ak,dP],by simp [ak,fO],by simp [ak,dw (x:=(i:Int)+1) (by omega) (by omega)],bz.aU bK,?_⟩
    ·omega
    ·rw [List.take_add_one,List.take_add_one,m1];simp [hc,eY,aE]
   ·have ex:(!xr us[i] ln[i])=true:=by
     have:xr us[i] ln[i]=false:=by rw [<- Bool.not_eq_true,T8];exact aE
     simp [this]
    simp only [ad,seval,ex];exact done false _ _ (bM.aU (bz.aU bK)) (by simp [ak]) (by simp;intro _ q;exact (aE (by simp [q])).elim)
  ·simp only [ad,seval,decide_eq_false (show ¬(i:Int)<us.length by omega)];have dt:i=us.length:=by omega
   rw [dt,List.take_length,n4,List.take_length] at m1;exact done true _ _ (bM.aU bz) (by simp [ak]) (by simp [aA,m1])
end
section
variable{main:Bool}{ah:Type}{S:Sys ah}{s:ah}{h:ab}
theorem call5:bP Tryz.prog 5=true:=by kernel_rfl
theorem call6:bP Tryz.prog 6=true:=by kernel_rfl
theorem ha{ty:TypeId}{l:List UInt8}[K:KK Value]:au Tryz.prog (Builtin.len_ #[9] ty #[.string ⟨⟨l⟩⟩]) h=K.f (.int .i64 l.length) h:=Mw
def ej.dj(x:ej):Prop:=x.cI.length>20\/x.cO.length>20\/(∃l∈x.cI,l.length>20)\/∃l∈x.cO,l.length>20
def Ground.wide(x:Ground):Prop:=x.dT.length>20\/x.ei.length>20\/(∃l∈x.dT,l.name.length>100)\/∃l∈x.ei,l.name.length>100
theorem aqZ{v:Value}{x:ej}(aI:mh h v x):bI Tryz.prog main S 5 #[v] s h fun ai h' z=>ai=s/\h.aD h'/\(z=.bool true/\x.dj\/z=.bool false/\¬x.dj):=by
 refine cc (args:=[v]) Tryz.func5 (by delta Tryz.f5;rfl) Tryz.ntmps5 (by simp) (by kernel_rfl) ?_;obtain ⟨v1,v2,rfl,⟨vs,hZ,j2⟩,⟨us,mz,pM⟩⟩:=aI;obtain ⟨p,o,c,rfl,aK⟩:=hZ.one;obtain ⟨r,u,d,rfl,al⟩:=mz.one;simp only [ad,seval,b4];intro c1 h1 fe e1;have bx:=cS fe e1;have g1:=cq e1;simp only [ad,seval,g1];have done:∀(q:Bool) (e:Env) (h3:ab),h.aD h3->e 2=.bool q->(q=true↔x.dj)->
   er Tryz.prog Tryz.f5 (fun ai h' z=>ai=s/\h.aD h'/\(z=.bool true/\x.dj\/z=.bool false/\¬x.dj)) 45 e [] s h3:=fun q e h3 fP e4 aE=>
  bT Tryz.results5 (by simp) ⟨rfl,fP,by rw [e4];cases q<;>simp at aE ⊢ <;>exact aE⟩
 have nk:=j2.1;have ls:=pM.1;by_cases n3:vs.length>20
 ·simp only [ad,seval,decide_eq_true (show (vs.length:Int)>20 by omega)];exact done true _ _ bx (by simp [ak]) (by simp [ej.dj];omega)
 simp only [ad,seval,decide_eq_false (show ¬(vs.length:Int)>20 by omega),g1];by_cases n4:us.length>20
 ·simp only [ad,seval,decide_eq_true (show (us.length:Int)>20 by omega)];exact done true _ _ bx (by simp [ak]) (by simp [ej.dj];omega)
 simp only [ad,seval,decide_eq_false (show ¬(us.length:Int)>20 by omega)];refine eG (I:=fun k e d cx aa=>∃i:Nat,k=vs.length- i/\i<=vs.length/\e 1=bL c1 0/\e 3=.int .i64 i/\d=[]/\cx=s/\h1.aD aa/\∀l∈x.cI.take i,l.length<=20) (fun k e d cx aa bU=> ?_) (m:=vs.length) ⟨0,by simp,by omega,by simp [ak],by simp [ak],rfl,rfl,fun _ _ q=>q,by simp⟩;obtain ⟨i,rfl,na,dP,e5,rfl,fF,bz,aA⟩:=bU;subst fF;have k1:=bz _ _ g1;simp only [ad,seval,dP,e5,k1];rcases Nat.lt_or_ge i vs.length with hc|hc
 ·obtain ⟨mb,rfl,arr,q,f,w,hm,gg⟩:=aK.resolve_left (by omega);have f1:=gg i hc;have dL:=bz _ _ (bx _ _ hm);have pP:i<x.cI.length:=by omega
  have A:=j2.2 i vs[i] x.cI[i] (by simp) (by simp);obtain ⟨a1,o1,hr,d1,aS,cR,_⟩:=A;simp only [List.length_map] at cR;subst cR;simp only [ad,seval,decide_eq_true (show (i:Int)<vs.length by omega),dP,e5,k1,dL,f1,aS];by_cases aE:x.cI[i].length>20
  ·simp only [ad,seval,decide_eq_true (show (x.cI[i].length:Int)>20 by omega)];exact done true _ _ (bx.aU bz) (by simp [ak]) (by simp only [true_iff];exact .inr (.inr (.inl ⟨_,List.getElem_mem pP,aE⟩)))
  ·simp only [ad,seval,decide_eq_false (show ¬(x.cI[i].length:Int)>20 by omega),e5];refine ⟨_,?_,i+1,rfl,by omega,by simp [ak,dP],by simp [ak,dw (x:=(i:Int)+1) (by omega) (by omega)],bz,fun l af=> ?_⟩
   ·omega
   ·rw [List.take_add_one,List.mem_append] at af;rcases af with af|af
    ·exact aA l af
    ·simp [pP] at af;subst af;omega
 ·simp only [ad,seval,decide_eq_false (show ¬(i:Int)<vs.length by omega)];have dt:i=vs.length:=by omega
  rw [dt,nk,List.take_length] at aA;have bx:=bx.aU bz;have g1:=k1;generalize uF:aa=h1 at bx g1 ⊢;clear uF k1;refine eG (I:=fun k e d s2 aa=>∃i:Nat,k=us.length- i/\i<=us.length/\e 1=bL c1 0/\e 4=.int .i64 i/\d=[]/\s2=cx/\h1.aD aa/\∀l∈x.cO.take i,l.length<=20) (fun k e d s2 aa bU=> ?_) (m:=us.length) ⟨0,by simp,by omega,by simp [ak,dP],by simp [ak],rfl,rfl,fun _ _ q=>q,by simp⟩;obtain ⟨i,rfl,na,dP,e5,rfl,fF,bz,m1⟩:=bU;subst fF;have k1:=bz _ _ g1;simp only [ad,seval,dP,e5,k1];rcases Nat.lt_or_ge i us.length with hc|hc
  ·obtain ⟨mb,rfl,arr,q,f,w,hm,gg⟩:=al.resolve_left (by omega);have f1:=gg i hc;have dL:=bz _ _ (bx _ _ hm);have pP:i<x.cO.length:=by omega
   have A:=pM.2 i us[i] x.cO[i] (by simp) (by simp);obtain ⟨a1,o1,hr,d1,aS,cR,_⟩:=A;simp only [List.length_map] at cR;subst cR;simp only [ad,seval,decide_eq_true (show (i:Int)<us.length by omega),dP,e5,k1,dL,f1,aS];by_cases aE:x.cO[i].length>20
   ·simp only [ad,seval,decide_eq_true (show (x.cO[i].length:Int)>20 by omega)];exact done true _ _ (bx.aU bz) (by simp [ak]) (by simp only [true_iff];exact .inr (.inr (.inr ⟨_,List.getElem_mem pP,aE⟩)))
   ·simp only [ad,seval,decide_eq_false (show ¬(x.cO[i].length:Int)>20 by omega),e5];refine ⟨_,?_,i+1,rfl,by omega,by simp [ak,dP],by simp [ak,dw (x:=(i:Int)+1) (by omega) (by omega)],bz,fun l af=> ?_⟩
    ·omega
    ·rw [List.take_add_one,List.mem_append] at af;rcases af with af|af
     ·exact m1 l af
     ·simp [pP] at af;subst af;omega
  ·simp only [ad,seval,decide_eq_false (show ¬(i:Int)<us.length by omega)];have dt:i=us.length:=by omega
   rw [dt,ls,List.take_length] at m1;refine done false _ _ (bx.aU bz) (by simp [ak]) ?_;simp only [Bool.false_eq_true,false_iff];rintro (q|q|⟨l,af,q⟩|⟨l,af,q⟩)
   ·omega
   ·omega
   ·have:=aA l af;omega
   ·have:=m1 l af;omega
theorem aoN{v:Value}{x:Ground}(aI:lG h v x):bI Tryz.prog main S 6 #[v] s h fun ai h' z=>ai=s/\h.aD h'/\(z=.bool true/\x.wide\/z=.bool false/\¬x.wide):=by
 refine cc (args:=[v]) Tryz.func6 (by delta Tryz.f6;rfl) Tryz.ntmps6 (by simp) (by kernel_rfl) ?_;obtain ⟨v1,v2,rfl,hZ,mz⟩:=aI;obtain ⟨p,o,c,rfl,aK⟩:=hZ.four;obtain ⟨r,u,d,rfl,al⟩:=mz.four;generalize pO:x.dT=vs at*
 generalize Dp:x.ei=us at*
 simp only [ad,seval,b4];intro c1 h1 fe e1;have bx:=cS fe e1;have g1:=cq e1;simp only [ad,seval,g1];have done:∀(q:Bool) (e:Env) (h3:ab),h.aD h3->e 2=.bool q->(q=true↔x.wide)->
   er Tryz.prog Tryz.f6 (fun ai h' z=>ai=s/\h.aD h'/\(z=.bool true/\x.wide\/z=.bool false/\¬x.wide)) 45 e [] s h3:=fun q e h3 fP e4 aE=>
  bT Tryz.results6 (by simp) ⟨rfl,fP,by rw [e4];cases q<;>simp at aE ⊢ <;>exact aE⟩
 by_cases n3:vs.length>20
 ·simp only [ad,seval,decide_eq_true (show (vs.length:Int)>20 by omega)];exact done true _ _ bx (by simp [ak]) (by simp [Ground.wide,pO,Dp];omega)
 simp only [ad,seval,decide_eq_false (show ¬(vs.length:Int)>20 by omega),g1];by_cases n4:us.length>20
 ·simp only [ad,seval,decide_eq_true (show (us.length:Int)>20 by omega)];exact done true _ _ bx (by simp [ak]) (by simp [Ground.wide,pO,Dp];omega)
 simp only [ad,seval,decide_eq_false (show ¬(us.length:Int)>20 by omega)];refine eG (I:=fun k e d cx aa=>∃i:Nat,k=vs.length- i/\i<=vs.length/\e 1=bL c1 0/\e 3=.int .i64 i/\d=[]/\cx=s/\h1.aD aa/\∀l∈vs.take i,l.name.length<=100) (fun k e d cx aa bU=> ?_) (m:=vs.length) ⟨0,by simp,by omega,by simp [ak],by simp [ak],rfl,rfl,fun _ _ q=>q,by simp⟩;obtain ⟨i,rfl,na,dP,e5,rfl,fF,bz,aA⟩:=bU;subst fF;have k1:=bz _ _ g1;simp only [ad,seval,dP,e5,k1];rcases Nat.lt_or_ge i vs.length with hc|hc
 ·obtain ⟨mb,rfl,arr,q,f,w,hm,gg⟩:=aK.resolve_left (by omega);obtain ⟨f1,_⟩:=gg i hc;have dL:=bz _ _ (bx _ _ hm);simp only [ad,seval,decide_eq_true (show (i:Int)<vs.length by omega),dP,e5,k1,dL,f1,ha];by_cases aE:vs[i].name.length>100
  ·simp only [ad,seval,decide_eq_true (show (vs[i].name.length:Int)>100 by omega)];exact done true _ _ (bx.aU bz) (by simp [ak]) (by simp only [true_iff];exact .inr (.inr (.inl ⟨_,pO▸List.getElem_mem hc,aE⟩)))
  ·simp only [ad,seval,decide_eq_false (show ¬(vs[i].name.length:Int)>100 by omega),e5];refine ⟨_,?_,i+1,rfl,by omega,by simp [ak,dP],by simp [ak,dw (x:=(i:Int)+1) (by omega) (by omega)],bz,fun l af=> ?_⟩
   ·omega
   ·rw [List.take_add_one,List.mem_append] at af;rcases af with af|af
    ·exact aA l af
    ·simp [hc] at af;subst af;omega
 ·simp only [ad,seval,decide_eq_false (show ¬(i:Int)<vs.length by omega)];have dt:i=vs.length:=by omega
  rw [dt,List.take_length] at aA;have bx:=bx.aU bz;have g1:=k1;generalize uF:aa=h1 at bx g1 ⊢;clear uF k1;refine eG (I:=fun k e d s2 aa=>∃i:Nat,k=us.length- i/\i<=us.length/\e 1=bL c1 0/\e 4=.int .i64 i/\d=[]/\s2=cx/\h1.aD aa/\∀l∈us.take i,l.name.length<=100) (fun k e d s2 aa bU=> ?_) (m:=us.length) ⟨0,by simp,by omega,by simp [ak,dP],by simp [ak],rfl,rfl,fun _ _ q=>q,by simp⟩;obtain ⟨i,rfl,na,dP,e5,rfl,fF,bz,m1⟩:=bU;subst fF;have k1:=bz _ _ g1;simp only [ad,seval,dP,e5,k1];rcases Nat.lt_or_ge i us.length with hc|hc
  ·obtain ⟨mb,rfl,arr,q,f,w,hm,gg⟩:=al.resolve_left (by omega);obtain ⟨f1,_⟩:=gg i hc;have dL:=bz _ _ (bx _ _ hm);simp only [ad,seval,decide_eq_true (show (i:Int)<us.length by omega),dP,e5,k1,dL,f1,ha];by_cases aE:us[i].name.length>100
   ·simp only [ad,seval,decide_eq_true (show (us[i].name.length:Int)>100 by omega)];exact done true _ _ (bx.aU bz) (by simp [ak]) (by simp only [true_iff];exact .inr (.inr (.inr ⟨_,Dp▸List.getElem_mem hc,aE⟩)))
   ·simp only [ad,seval,decide_eq_false (show ¬(us[i].name.length:Int)>100 by omega),e5];refine ⟨_,?_,i+1,rfl,by omega,by simp [ak,dP],by simp [ak,dw (x:=(i:Int)+1) (by omega) (by omega)],bz,fun l af=> ?_⟩
    ·omega
    ·rw [List.take_add_one,List.mem_append] at af;rcases af with af|af
     ·exact m1 l af
     ·simp [hc] at af;subst af;omega
  ·simp only [ad,seval,decide_eq_false (show ¬(i:Int)<us.length by omega)];have dt:i=us.length:=by omega
   rw [dt,List.take_length] at m1;refine done false _ _ (bx.aU bz) (by simp [ak]) ?_;simp only [Bool.false_eq_true,false_iff];unfold Ground.wide;rw [pO,Dp];rintro (q|q|⟨l,af,q⟩|⟨l,af,q⟩)
   ·omega
   ·omega
   ·have:=aA l af;omega
   ·have:=m1 l af;omega
end
def nx(n:Int):Bool:=decide ((0:Int)<=n)&&decide (n<=999)
structure ej.cu(x:ej):Prop where
 lay:1<=x.cI.length/\x.cI.length<=3
 tP:∀l∈x.cI,l.length=4/\∀n∈l,nx n=true
 Dq:x.cO.length<=4
 load:∀l∈x.cO,l.length=4/\∀p∈l,insideOk p 0 999=true
 cg:(decide ((0:Int)<=x.fN)&&decide (x.fN<=9999))=true
 gO:(decide ((0:Int)<=x.fH)&&decide (x.fH<=4))=true
section
variable{main:Bool}{ah:Type}{S:Sys ah}{s:ah}{h:ab}
theorem call14:bP Tryz.prog 14=true:=by kernel_rfl
theorem dx.Cw{v:Value}{l:List Int}(q:ju h v l):∃b o c,v=.slice b l.length c/\(l.length=0\/∃m,b=some ⟨m,o,none⟩/\∃arr q f w,h m=some ⟨.cells arr q f,w⟩/\∀i (hi:i<l.length),arr[o+i]? =some (.int .i64 l[i])):=by
 obtain ⟨b,o,n,c,rfl,cR,hb⟩:=q;simp only [List.length_map] at cR;subst cR;refine ⟨b,o,c,rfl,hb.imp id fun ⟨m,e,arr,q,f,w,hm,al⟩=>⟨m,e,arr,q,f,w,hm,fun i hi=> ?_⟩⟩;have:=al i [b4 l[i]] (by simp [hi]) 0 _ rfl;simpa [b4] using this
theorem dx.Cx{v:Value}{l:List (Int×Int)}(q:pr h v l):∃b o c,v=.slice b l.length c/\(l.length=0\/∃m,b=some ⟨m,o,none⟩/\∃arr q f w,h m=some ⟨.cells arr q f,w⟩/\∀i (hi:i<l.length),arr[o+i*2]? =some (.int .i64 l[i].1)/\arr[o+i*2+1]? =some (.int .i64 l[i].2)):=by
 obtain ⟨b,o,n,c,rfl,cR,hb⟩:=q;simp only [List.length_map] at cR;subst cR;refine ⟨b,o,c,rfl,hb.imp id fun ⟨m,e,arr,q,f,w,hm,al⟩=>⟨m,e,arr,q,f,w,hm,fun i hi=> ?_⟩⟩;have:=al i [b4 l[i].1,b4 l[i].2] (by simp [hi]);exact ⟨this 0 _ rfl,this 1 _ rfl⟩
theorem Ua{v:Value}{x:ej}(aI:mh h v x):bI Tryz.prog main S 14 #[v] s h fun ai h' z=>ai=s/\h.aD h'/\∃f,z=.int .i64 f/\(f=0↔x.cu):=by
 refine cc (args:=[v]) Tryz.func14 (by delta Tryz.f14;rfl) Tryz.ntmps14 (by simp) (by kernel_rfl) ?_;obtain ⟨v1,v2,rfl,⟨vs,hZ,j2⟩,⟨us,mz,pM⟩⟩:=aI;obtain ⟨p,o,c,rfl,aK⟩:=hZ.one;obtain ⟨r,u,d,rfl,al⟩:=mz.one;simp only [ad,seval,b4];intro c1 h1 fe e1;have bx:=cS fe e1;have g1:=cq e1;simp only [ad,seval,g1];have done:∀(q:Int) (e:Env) (h3:ab),h.aD h3->e 2=.int .i64 q->(q=0↔x.cu)->
   er Tryz.prog Tryz.f14 (fun ai h' z=>ai=s/\h.aD h'/\∃f,z=.int .i64 f/\(f=0↔x.cu)) 80 e [] s h3:=fun q e h3 fP e4 aE=>
  bT Tryz.results14 (by simp) ⟨rfl,fP,q,e4,aE⟩
 have bad:∀(q:Int) (e:Env) (h3:ab),h.aD h3->e 2=.int .i64 q->q≠0->¬x.cu->
   er Tryz.prog Tryz.f14 (fun ai h' z=>ai=s/\h.aD h'/\∃f,z=.int .i64 f/\(f=0↔x.cu)) 80 e [] s h3:=fun q e h3 fP e4 h1 h2=>done q e h3 fP e4 ⟨fun q=>(h1 q).elim,fun q=>(h2 q).elim⟩
 have nk:=j2.1;have ls:=pM.1;refine eQ call47 (pF _ _ _ _ _) ?_;cases n3:(decide ((1:Int)<=vs.length)&&decide ((vs.length:Int)<=3)) with
 | false=>
  simp only [ad,seval];refine bad 2 _ _ bx (by simp [ak]) (by decide) fun q=> ?_;have:=q.lay;simp at n3;omega
 | true=>
 have Dr:1<=vs.length/\vs.length<=3:=by simp at n3;omega
 simp only [ad,seval];refine eG (I:=fun k e d cx aa=>∃i:Nat,k=vs.length- i/\i<=vs.length/\e 1=bL c1 0/\e 3=.int .i64 i/\d=[]/\cx=s/\h1.aD aa/\∀l∈x.cI.take i,l.length=4/\∀n∈l,nx n=true) (fun k e d cx aa bU=> ?_) (m:=vs.length) ⟨0,by simp,by omega,by simp [ak],by simp [ak],rfl,rfl,fun _ _ q=>q,by simp⟩;obtain ⟨i,rfl,na,dP,e5,rfl,fF,bz,aA⟩:=bU;subst fF;have k1:=bz _ _ g1;simp only [ad,seval,dP,e5,k1];rcases Nat.lt_or_ge i vs.length with hc|hc
 ·obtain ⟨mb,rfl,arr,q,f,w,hm,gg⟩:=aK.resolve_left (by omega);have f1:=gg i hc;have dL:=bz _ _ (bx _ _ hm);have pP:i<x.cI.length:=by omega
  have A:=dx.le (bx.aU bz) (j2.2 i vs[i] x.cI[i] (by simp) (by simp));obtain ⟨a1,o1,d1,aS,a8⟩:=dx.Cw A;simp only [ad,seval,decide_eq_true (show (i:Int)<vs.length by omega),dP,e5,k1,dL,f1,aS];have jJ:x.cI[i]∈x.cI:=List.getElem_mem pP;have iR:x.cI.take (i+1)=x.cI.take i++[x.cI[i]]:=by simp
  generalize x.cI[i]=xl at a8 jJ iR ⊢;by_cases aE:xl.length=4
  case neg=>
   have ex:((xl.length:Int) != 4)=true:=by simp;omega
   simp only [ad,seval,ex];exact bad 2 _ _ (bx.aU bz) (by simp [ak]) (by decide) fun q=>aE (q.tP _ jJ).1
  have ex:((xl.length:Int) != 4)=false:=by simp;omega
  simp only [ad,seval,ex];refine eG (I:=fun k e d s2 h2=>∃j:Nat,k=4- j/\j<=4/\e 1=bL c1 0/\e 3=.int .i64 i/\e 4=.slice a1 xl.length d1/\e 5=.int .i64 j/\d=[]/\s2=cx/\aa.aD h2/\∀n∈xl.take j,nx n=true) (fun k e d s2 h2 bU=> ?_) (m:=4) ⟨0,by simp,by omega,by simp [ak,dP],by simp [ak,e5],by simp [ak],by simp [ak],rfl,rfl,fun _ _ q=>q,by simp⟩;obtain ⟨j,rfl,ae,gm,fO,ho,lp,rfl,fF,bK,hb⟩:=bU;subst fF;simp only [ad,seval,lp];rcases Nat.lt_or_ge j 4 with uw|uw
  ·obtain ⟨aw6,rfl,vy,az,f2,w2,gB,l2⟩:=a8.resolve_left (by omega);have kB:=l2 j (by omega);have R1:=bK _ _ gB;simp only [ad,seval,decide_eq_true (show (j:Int)<4 by omega),ho,lp,decide_eq_true (show (j:Int)<xl.length by omega),R1,kB];refine eQ call47 (pF _ _ _ _ _) ?_;cases ao:(decide ((0:Int)<=xl[j])&&decide (xl[j]<=999)) with
   | false=>
    simp only [ad,seval];refine bad 1 _ _ (bx.aU (bz.aU bK)) (by simp [ak]) (by decide) fun q=> ?_;have:=(q.tP _ jJ).2 _ (List.getElem_mem (show j<xl.length by omega));unfold nx at this;rw [ao] at this;cases this
   | true=>
    simp only [ad,seval,lp];refine ⟨_,?_,j+1,rfl,by omega,by simp [ak,gm],by simp [ak,fO],by simp [ak,ho],by simp [ak,dw (x:=(j:Int)+1) (by omega) (by omega)],bK,fun l af=> ?_⟩
    ·omega
    ·rw [List.take_add_one,List.mem_append] at af;rcases af with af|af
     ·exact hb l af
     ·simp [show j<xl.length by omega] at af;subst af;exact ao
  ·have:j=4:=by omega
   subst this;simp only [ad,seval,decide_eq_false (show ¬((4:Nat):Int)<4 by omega),fO];refine ⟨_,?_,i+1,rfl,by omega,by simp [ak,gm],by simp [ak,dw (x:=(i:Int)+1) (by omega) (by omega)],bz.aU bK,fun l af=> ?_⟩
   ·omega
   ·rw [iR,List.mem_append] at af;rcases af with af|af
    ·exact aA l af
    ·rw [List.mem_singleton] at af;subst af;rw [List.take_of_length_le (by omega)] at hb;exact ⟨aE,hb⟩
 simp only [ad,seval,decide_eq_false (show ¬(i:Int)<vs.length by omega),dP,k1];have dt:i=vs.length:=by omega
 rw [dt,nk,List.take_length] at aA;by_cases n4:us.length>4
 ·simp only [ad,seval,decide_eq_true (show (us.length:Int)>4 by omega)];exact bad 2 _ _ (bx.aU bz) (by simp [ak]) (by decide) fun q=>by have:=q.Dq;omega
 simp only [ad,seval,decide_eq_false (show ¬(us.length:Int)>4 by omega)];have gD:=bx.aU bz;have acu:=k1;generalize uF:aa=h9 at gD acu ⊢;clear uF k1;refine eG (I:=fun k e d jl aa=>∃i:Nat,k=us.length- i/\i<=us.length/\e 1=bL c1 0/\e 6=.int .i64 i/\d=[]/\jl=cx/\h9.aD aa/\∀l∈x.cO.take i,l.length=4/\∀n∈l,insideOk n 0 999=true) (fun k e d jl aa bU=> ?_) (m:=us.length) ⟨0,by simp,by omega,by simp [ak,dP],by simp [ak],rfl,rfl,fun _ _ q=>q,by simp⟩;obtain ⟨i,rfl,na,dP,e5,rfl,fF,bz,m1⟩:=bU;subst fF;have pe:=bz _ _ acu;simp only [ad,seval,dP,e5,pe];rcases Nat.lt_or_ge i us.length with hc|hc
 ·obtain ⟨mb,rfl,arr,q,f,w,hm,gg⟩:=al.resolve_left (by omega);have f1:=gg i hc;have dL:=bz _ _ (gD _ _ hm);have pP:i<x.cO.length:=by omega
  have A:=dx.le (gD.aU bz) (pM.2 i us[i] x.cO[i] (by simp) (by simp));obtain ⟨a1,o1,d1,aS,a8⟩:=dx.Cx A;simp only [ad,seval,decide_eq_true (show (i:Int)<us.length by omega),dP,e5,pe,dL,f1,aS];have jJ:x.cO[i]∈x.cO:=List.getElem_mem pP;have iR:x.cO.take (i+1)=x.cO.take i++[x.cO[i]]:=by simp
  generalize x.cO[i]=xl at a8 jJ iR ⊢;by_cases aE:xl.length=4
  case neg=>
   have ex:((xl.length:Int) != 4)=true:=by simp;omega
   simp only [ad,seval,ex];exact bad 2 _ _ (gD.aU bz) (by simp [ak]) (by decide) fun q=>aE (q.load _ jJ).1
  have ex:((xl.length:Int) != 4)=false:=by simp;omega
  simp only [ad,seval,ex];refine eG (I:=fun k e d s2 h2=>∃j:Nat,k=4- j/\j<=4/\e 1=bL c1 0/\e 6=.int .i64 i/\e 7=.slice a1 xl.length d1/\e 8=.int .i64 j/\d=[]/\s2=jl/\aa.aD h2/\∀n∈xl.take j,insideOk n 0 999=true) (fun k e d s2 h2 bU=> ?_) (m:=4) ⟨0,by simp,by omega,by simp [ak,dP],by simp [ak,e5],by simp [ak],by simp [ak],rfl,rfl,fun _ _ q=>q,by simp⟩;obtain ⟨j,rfl,ae,gm,fO,ho,lp,rfl,fF,bK,hb⟩:=bU;subst fF;simp only [ad,seval,lp];rcases Nat.lt_or_ge j 4 with uw|uw
  ·obtain ⟨aw6,rfl,vy,az,f2,w2,gB,l2⟩:=a8.resolve_left (by omega);obtain ⟨kB,pf⟩:=l2 j (by omega);have R1:=bK _ _ gB;simp only [ad,seval,decide_eq_true (show (j:Int)<4 by omega),ho,lp,decide_eq_true (show (j:Int)<xl.length by omega),R1,kB,pf];refine c0 call48 (ajy xl[j] 0 999) fun eW h4 v4 ⟨an,aX,cp⟩=> ?_;subst an;subst cp;cases ao:insideOk xl[j] 0 999 with
   | false=>
    simp only [ad,seval];refine bad 1 _ _ (gD.aU (bz.aU (bK.aU aX))) (by simp [ak]) (by decide) fun q=> ?_;have:=(q.load _ jJ).2 _ (List.getElem_mem (show j<xl.length by omega));rw [ao] at this;cases this
   | true=>
    simp only [ad,seval,lp];refine ⟨_,?_,j+1,rfl,by omega,by simp [ak,gm],by simp [ak,fO],by simp [ak,ho],by simp [ak,dw (x:=(j:Int)+1) (by omega) (by omega)],bK.aU aX,fun l af=> ?_⟩
    ·omega
    ·rw [List.take_add_one,List.mem_append] at af;rcases af with af|af
     ·exact hb l af
     ·simp [show j<xl.length by omega] at af;subst af;exact ao
  ·have:j=4:=by omega
   subst this;simp only [ad,seval,decide_eq_false (show ¬((4:Nat):Int)<4 by omega),fO];refine ⟨_,?_,i+1,rfl,by omega,by simp [ak,gm],by simp [ak,dw (x:=(i:Int)+1) (by omega) (by omega)],bz.aU bK,fun l af=> ?_⟩
   ·omega
   ·rw [iR,List.mem_append] at af;rcases af with af|af
    ·exact m1 l af
    ·rw [List.mem_singleton] at af;subst af;rw [List.take_of_length_le (by omega)] at hb;exact ⟨aE,hb⟩
 simp only [ad,seval,decide_eq_false (show ¬(i:Int)<us.length by omega),dP,pe];have dt:i=us.length:=by omega
 rw [dt,ls,List.take_length] at m1;refine eQ call47 (pF _ _ _ _ _) ?_;cases yI:(decide ((0:Int)<=x.fN)&&decide (x.fN<=9999)) with
 | false=>
  simp only [ad,seval];exact bad 1 _ _ (gD.aU bz) (by simp [ak]) (by decide) fun q=>by have:=q.cg;rw [yI] at this;cases this
 | true=>
 simp only [ad,seval,dP,pe];refine eQ call47 (pF _ _ _ _ _) ?_;cases n6:(decide ((0:Int)<=x.fH)&&decide (x.fH<=4)) with
 | false=>
  simp only [ad,seval];exact bad 1 _ _ (gD.aU bz) (by simp [ak]) (by decide) fun q=>by have:=q.gO;rw [n6] at this;cases this
 | true=>
 simp only [ad,seval];exact done 0 _ _ (gD.aU bz) (by simp [ak]) ⟨fun _=>⟨nk▸Dr,aA,by omega,m1,yI,n6⟩,fun _=>rfl⟩
end
def jP(n lo hi:Int):Bool:=decide (lo<=n)&&decide (n<=hi)
def k9(s:iB):Bool:=js s.name&&(jP s.dQ 1 90&&(jP s.size 1 150&&jP s.iG 0 4))
def ko(s:je):Bool:=js s.name&&(jP s.size 1 150&&(jP s.gM 1 90&&(jP s.dQ 1 90&&decide (s.gM<=s.dQ))))
def jx(l:List iB):Prop:=(∀s∈l,k9 s=true)/\(l.map (·.name)).Nodup
def lN(l:List je):Prop:=(∀s∈l,ko s=true)/\(l.map (·.name)).Nodup
theorem jx.take{l:List iB}(g:jx l)(i:Nat):jx (l.take i):=⟨fun s hs=>g.1 s (List.mem_of_mem_take hs),by rw [List.map_take];exact (List.take_sublist _ _).nodup g.2⟩
theorem lN.take{l:List je}(g:lN l)(i:Nat):lN (l.take i):=⟨fun s hs=>g.1 s (List.mem_of_mem_take hs),by rw [List.map_take];exact (List.take_sublist _ _).nodup g.2⟩
theorem EP{l:List iB}{x:iB}:jx (l++[x])↔jx l/\k9 x=true/\∀y∈l,y.name≠x.name:=by
 simp only [jx,List.map_append,List.nodup_append,List.mem_append];constructor
 ·rintro ⟨a,b,c,d⟩;exact ⟨⟨fun s hs=>a s (.inl hs),b⟩,a x (.inr (by simp)),fun y ax e=>d _ (List.mem_map_of_mem ax) _ (by simp) e⟩
 ·rintro ⟨⟨a,b⟩,c,d⟩;refine ⟨fun s hs=>hs.elim (a s) fun q=>by simp at q;rw [q];exact c,b,by simp,fun p aK q aE e=> ?_⟩;simp at aE aK;obtain ⟨y,ax,rfl⟩:=aK;exact d y ax (by rw [e,aE])
theorem ER{l:List je}{x:je}:lN (l++[x])↔lN l/\ko x=true/\∀y∈l,y.name≠x.name:=by
 simp only [lN,List.map_append,List.nodup_append,List.mem_append];constructor
 ·rintro ⟨a,b,c,d⟩;exact ⟨⟨fun s hs=>a s (.inl hs),b⟩,a x (.inr (by simp)),fun y ax e=>d _ (List.mem_map_of_mem ax) _ (by simp) e⟩
 ·rintro ⟨⟨a,b⟩,c,d⟩;refine ⟨fun s hs=>hs.elim (a s) fun q=>by simp at q;rw [q];exact c,b,by simp,fun p aK q aE e=> ?_⟩;simp at aE aK;obtain ⟨y,ax,rfl⟩:=aK;exact d y ax (by rw [e,aE])
structure Ground.cu(x:Ground):Prop where
 ns:x.dT.length<=4
 st:jx x.dT
 Ec:x.ei.length<=6
 yH:lN x.ei
section
variable{main:Bool}{ah:Type}{S:Sys ah}{s:ah}{h:ab}
theorem call49:bP Tryz.prog 49=true:=by kernel_rfl
theorem call50:bP Tryz.prog 50=true:=by kernel_rfl
theorem adG{v:Value}{x:Ground}(aI:lG h v x):bI Tryz.prog main S 49 #[v] s h fun ai h' z=>ai=s/\h.aD h'/\∃f,z=.int .i64 f/\(f=0↔x.dT.length<=4/\jx x.dT):=by
 refine cc (args:=[v]) Tryz.func49 (by delta Tryz.f49;rfl) Tryz.ntmps49 (by simp) (by kernel_rfl) ?_;obtain ⟨v1,v2,rfl,hZ,mz⟩:=aI;obtain ⟨p,o,c,rfl,aK⟩:=hZ.four;generalize pO:x.dT=vs at*
 simp only [ad,seval,b4];intro c1 h1 fe e1;have bx:=cS fe e1;have g1:=cq e1;simp only [ad,seval,g1];have done:∀(q:Int) (e:Env) (h3:ab),h.aD h3->e 2=.int .i64 q->(q=0↔vs.length<=4/\jx vs)->
   er Tryz.prog Tryz.f49 (fun ai h' z=>ai=s/\h.aD h'/\∃f,z=.int .i64 f/\(f=0↔vs.length<=4/\jx vs)) 56 e [] s h3:=fun q e h3 fP e4 aE=>
  bT Tryz.results49 (by simp) ⟨rfl,fP,q,e4,aE⟩
 have bad:∀(q:Int) (e:Env) (h3:ab),h.aD h3->e 2=.int .i64 q->q≠0->¬(vs.length<=4/\jx vs)->
   er Tryz.prog Tryz.f49 (fun ai h' z=>ai=s/\h.aD h'/\∃f,z=.int .i64 f/\(f=0↔vs.length<=4/\jx vs)) 56 e [] s h3:=fun q e h3 fP e4 h1 h2=>done q e h3 fP e4 ⟨fun q=>(h1 q).elim,fun q=>(h2 q).elim⟩
 by_cases n4:vs.length>4
 ·simp only [ad,seval,decide_eq_true (show (vs.length:Int)>4 by omega)];exact bad 2 _ _ bx (by simp [ak]) (by decide) fun q=>by omega
 simp only [ad,seval,decide_eq_false (show ¬(vs.length:Int)>4 by omega)];refine eG (I:=fun k e d cx aa=>∃i:Nat,k=vs.length- i/\i<=vs.length/\e 1=bL c1 0/\e 3=.int .i64 i/\d=[]/\cx=s/\h1.aD aa/\jx (vs.take i)) (fun k e d cx aa bU=> ?_) (m:=vs.length) ⟨0,by simp,by omega,by simp [ak],by simp [ak],rfl,rfl,fun _ _ q=>q,by simp [jx]⟩;obtain ⟨i,rfl,na,dP,e5,rfl,fF,bz,aA⟩:=bU;subst fF;have k1:=bz _ _ g1;simp only [ad,seval,dP,e5,k1];rcases Nat.lt_or_ge i vs.length with hc|hc
 ·obtain ⟨mb,rfl,arr,q,f,w,hm,gg⟩:=aK.resolve_left (by omega);obtain ⟨a0,a1,a2,a3⟩:=gg i hc;simp only [b4] at a1 a2 a3;have dL:=bz _ _ (bx _ _ hm);simp only [ad,seval,decide_eq_true (show (i:Int)<vs.length by omega),dP,e5,k1,dL,a0,a1,a2,a3];intro c3 h3 ed e3;have g3:=cq e3;simp only [ad,seval,g3];intro h4 e4;have g4:=cq e4;have cd:aa.aD h4:=fq (cS ed e3) ed e4;have e8:=cd _ _ k1;clear e3 g3 ed;have iR:vs.take (i+1)=vs.take i++[vs[i]]:=by simp
  have gC:jx vs->k9 vs[i]=true/\∀y∈vs.take i,y.name≠vs[i].name:=fun q=>by
   have:=q.take (i+1);rw [iR,EP] at this;exact this.2
  generalize vs[i]=eP at g4 iR gC ⊢;simp only [ad,seval,g4];refine eQ call50 (Vf _ _ _) ?_;cases an:js eP.name with
  | false=>
   simp only [ad,seval];exact bad 4 _ _ (bx.aU (bz.aU cd)) (by simp [ak]) (by decide) fun q=>by have:=(gC q.2).1;simp [k9,an] at this
  | true=>
  simp only [ad,seval];refine eG (I:=fun k e d s2 h2=>∃j:Nat,k=i- j/\j<=i/\e 1=bL c1 0/\e 3=.int .i64 i/\e 4=bL c3 0/\e 5=.int .i64 j/\d=[]/\s2=cx/\h4.aD h2/\∀y∈vs.take j,y.name≠eP.name) (fun k e d s2 h2 bU=> ?_) (m:=i) ⟨0,by simp,by omega,by simp [ak,dP],by simp [ak,e5],by simp [ak],by simp [ak],rfl,rfl,fun _ _ q=>q,by simp⟩;obtain ⟨j,rfl,ae,gm,fO,ho,lp,rfl,fF,bK,hb⟩:=bU;subst fF;simp only [ad,seval,lp,fO];rcases Nat.lt_or_ge j i with uw|uw
  ·simp only [ad,seval,decide_eq_true (show (j:Int)<i by omega),kJ];have AX:j<vs.length:=by omega
   obtain ⟨b0,_⟩:=gg j AX;have gc:∀h,h2.aD h->h c1=_:=fun h le=>le _ _ (bK _ _ e8);have pN:∀h,h2.aD h->h c3=_:=fun h le=>le _ _ (bK _ _ g4);have yc:∀h,h2.aD h->h mb=_:=fun h le=>le _ _ (bK _ _ (cd _ _ dL));have bd:decide ((j:Int)<vs.length)=true:=by simp;omega
   intro t;refine p8 hR (by kernel_rfl) (by kernel_rfl) ?_ t
   repeat refine lF (fun h1 le=>by simp only [ad,seval,et,le,gm,ho,lp,gc,pN,yc,b0,bd,ki];exact ⟨fun _ _ q=>q,rfl⟩) ?_
   rw [pt];intro h5 ey;cases aE:(vs[j].name==eP.name) with
   | true=>
    simp only [ad,seval];refine bad 5 _ _ (bx.aU (bz.aU (cd.aU (bK.aU ey)))) (by simp [ak]) (by decide) fun q=>(gC q.2).2 vs[j] ?_ (by simpa using aE);exact List.mem_take_iff_getElem.2 ⟨j,by omega,rfl⟩
   | false=>
    simp only [ad,seval,lp];refine ⟨_,?_,j+1,rfl,by omega,by simp [ak,gm],by simp [ak,fO],by simp [ak,ho],by simp [ak,dw (x:=(j:Int)+1) (by omega) (by omega)],bK.aU ey,fun l af=> ?_⟩
    ·omega
    ·rw [List.take_add_one,List.mem_append] at af;rcases af with af|af
     ·exact hb l af
     ·simp [AX] at af;subst af;simpa using aE
  ·have:j=i:=by omega
   subst this;have g6:=bK _ _ g4;simp only [ad,seval,decide_eq_false (show ¬(j:Int)<j by omega),fO,ho,g6];refine eQ call47 (pF _ _ _ _ _) ?_;cases az:(decide ((1:Int)<=eP.dQ)&&decide (eP.dQ<=90)) with
   | false=>
    simp only [ad,seval];exact bad 1 _ _ (bx.aU (bz.aU (cd.aU bK))) (by simp [ak]) (by decide) fun q=>by have:=(gC q.2).1;simp [k9,jP,az] at this
   | true=>
   simp only [ad,seval,ho,g6];refine eQ call47 (pF _ _ _ _ _) ?_;cases aB:(decide ((1:Int)<=eP.size)&&decide (eP.size<=150)) with
   | false=>
    simp only [ad,seval];exact bad 1 _ _ (bx.aU (bz.aU (cd.aU bK))) (by simp [ak]) (by decide) fun q=>by have:=(gC q.2).1;simp [k9,jP,aB] at this
   | true=>
   simp only [ad,seval,ho,g6];refine eQ call47 (pF _ _ _ _ _) ?_;cases aX:(decide ((0:Int)<=eP.iG)&&decide (eP.iG<=4)) with
   | false=>
    simp only [ad,seval];exact bad 1 _ _ (bx.aU (bz.aU (cd.aU bK))) (by simp [ak]) (by decide) fun q=>by have:=(gC q.2).1;simp [k9,jP,aX] at this
   | true=>
   simp only [ad,seval,fO];refine ⟨_,?_,j+1,rfl,by omega,by simp [ak,gm],by simp [ak,dw (x:=(j:Int)+1) (by omega) (by omega)],bz.aU (cd.aU bK),?_⟩
   ·omega
   ·rw [iR,EP];exact ⟨aA,by simp only [k9,jP,an,az,aB,aX,Bool.and_self],hb⟩
 ·simp only [ad,seval,decide_eq_false (show ¬(i:Int)<vs.length by omega)];have dt:i=vs.length:=by omega
  rw [dt,List.take_length] at aA;exact done 0 _ _ (bx.aU bz) (by simp [ak]) ⟨fun _=>⟨by omega,aA⟩,fun _=>rfl⟩
end
section
variable{main:Bool}{ah:Type}{S:Sys ah}{s:ah}{h:ab}
theorem call15:bP Tryz.prog 15=true:=by kernel_rfl
theorem SW{v:Value}{x:Ground}(aI:lG h v x):bI Tryz.prog main S 15 #[v] s h fun ai h' z=>ai=s/\h.aD h'/\∃f,z=.int .i64 f/\(f=0↔x.cu):=by
 refine cc (args:=[v]) Tryz.func15 (by delta Tryz.f15;rfl) Tryz.ntmps15 (by simp) (by kernel_rfl) ?_;obtain ⟨v1,v2,rfl,hZ,mz⟩:=aI;obtain ⟨p,o,c,rfl,aK⟩:=mz.four;have CQ:lG h (.agg #[v1,.slice p x.ei.length c]) x:=⟨v1,_,rfl,hZ,mz⟩;generalize pO:x.ei=vs at*
 simp only [ad,seval,b4];intro c1 h1 fe e1;have bx:=cS fe e1;have g1:=cq e1;simp only [ad,seval,g1];have done:∀(q:Int) (e:Env) (h3:ab),h.aD h3->e 2=.int .i64 q->(q=0↔x.cu)->
   er Tryz.prog Tryz.f15 (fun ai h' z=>ai=s/\h.aD h'/\∃f,z=.int .i64 f/\(f=0↔x.cu)) 67 e [] s h3:=fun q e h3 fP e4 aE=>
  bT Tryz.results15 (by simp) ⟨rfl,fP,q,e4,aE⟩
 have bad:∀(q:Int) (e:Env) (h3:ab),h.aD h3->e 2=.int .i64 q->q≠0->¬(x.cu)->
   er Tryz.prog Tryz.f15 (fun ai h' z=>ai=s/\h.aD h'/\∃f,z=.int .i64 f/\(f=0↔x.cu)) 67 e [] s h3:=fun q e h3 fP e4 h1 h2=>done q e h3 fP e4 ⟨fun q=>(h1 q).elim,fun q=>(h2 q).elim⟩
 refine c0 call49 (adG (CQ.le bx)) fun s1 h2 au2 ⟨an,bM,f,aB,aX⟩=> ?_;subst an;subst aB;by_cases Ds:x.dT.length<=4/\jx x.dT
 case neg=>
  have aP:f≠0:=fun q=>Ds (aX.1 q);have ex:(f != 0)=true:=by simpa using aP
  simp only [ad,seval,ex];exact bad f _ _ (bx.aU bM) (by simp [ak]) aP fun q=>Ds ⟨q.ns,q.st⟩
 have aP:f=0:=aX.2 Ds;subst aP;have g1:=bM _ _ g1;have bx:=bx.aU bM;generalize h2=h1 at g1 bx;simp only [ad,seval,g1,show ((0:Int) != 0)=false from rfl];by_cases n4:vs.length>6
 ·simp only [ad,seval,decide_eq_true (show (vs.length:Int)>6 by omega)];exact bad 2 _ _ bx (by simp [ak]) (by decide) fun q=>by have:=q.Ec;rw [pO] at this;omega
 simp only [ad,seval,decide_eq_false (show ¬(vs.length:Int)>6 by omega)];refine eG (I:=fun k e d cx aa=>∃i:Nat,k=vs.length- i/\i<=vs.length/\e 1=bL c1 0/\e 4=.int .i64 i/\d=[]/\cx=s1/\h1.aD aa/\lN (vs.take i)) (fun k e d cx aa bU=> ?_) (m:=vs.length) ⟨0,by simp,by omega,by simp [ak],by simp [ak],rfl,rfl,fun _ _ q=>q,by simp [lN]⟩;obtain ⟨i,rfl,na,dP,e5,rfl,fF,bz,aA⟩:=bU;subst fF;have k1:=bz _ _ g1;simp only [ad,seval,dP,e5,k1];rcases Nat.lt_or_ge i vs.length with hc|hc
 ·obtain ⟨mb,rfl,arr,q,f,w,hm,gg⟩:=aK.resolve_left (by omega);obtain ⟨a0,a1,a2,a3⟩:=gg i hc;simp only [b4] at a1 a2 a3;have dL:=bz _ _ (bx _ _ hm);simp only [ad,seval,decide_eq_true (show (i:Int)<vs.length by omega),dP,e5,k1,dL,a0,a1,a2,a3];intro c3 h3 ed e3;have g3:=cq e3;simp only [ad,seval,g3];intro h4 e4;have g4:=cq e4;have cd:aa.aD h4:=fq (cS ed e3) ed e4;have e8:=cd _ _ k1;clear e3 g3 ed;have iR:vs.take (i+1)=vs.take i++[vs[i]]:=by simp
  have gC:x.cu->ko vs[i]=true/\∀y∈vs.take i,y.name≠vs[i].name:=fun q=>by
   have:=(pO▸q.yH:lN vs).take (i+1);rw [iR,ER] at this;exact this.2
  generalize vs[i]=eP at g4 iR gC ⊢;simp only [ad,seval,g4];refine eQ call50 (Vf _ _ _) ?_;cases an:js eP.name with
  | false=>
   simp only [ad,seval];exact bad 4 _ _ (bx.aU (bz.aU cd)) (by simp [ak]) (by decide) fun q=>by have:=(gC q).1;simp [ko,an] at this
  | true=>
  simp only [ad,seval];refine eG (I:=fun k e d s2 h2=>∃j:Nat,k=i- j/\j<=i/\e 1=bL c1 0/\e 4=.int .i64 i/\e 5=bL c3 0/\e 6=.int .i64 j/\d=[]/\s2=cx/\h4.aD h2/\∀y∈vs.take j,y.name≠eP.name) (fun k e d s2 h2 bU=> ?_) (m:=i) ⟨0,by simp,by omega,by simp [ak,dP],by simp [ak,e5],by simp [ak],by simp [ak],rfl,rfl,fun _ _ q=>q,by simp⟩;obtain ⟨j,rfl,ae,gm,fO,ho,lp,rfl,fF,bK,hb⟩:=bU;subst fF;simp only [ad,seval,lp,fO];rcases Nat.lt_or_ge j i with uw|uw
  ·simp only [ad,seval,decide_eq_true (show (j:Int)<i by omega),kJ];have AX:j<vs.length:=by omega
   obtain ⟨b0,_⟩:=gg j AX;have gc:∀h,h2.aD h->h c1=_:=fun h le=>le _ _ (bK _ _ e8);have pN:∀h,h2.aD h->h c3=_:=fun h le=>le _ _ (bK _ _ g4);have yc:∀h,h2.aD h->h mb=_:=fun h le=>le _ _ (bK _ _ (cd _ _ dL));have bd:decide ((j:Int)<vs.length)=true:=by simp;omega
   intro t;refine p8 hR (by kernel_rfl) (by kernel_rfl) ?_ t
   repeat refine lF (fun h1 le=>by simp only [ad,seval,et,le,gm,ho,lp,gc,pN,yc,b0,bd,ki];exact ⟨fun _ _ q=>q,rfl⟩) ?_
   rw [pt];intro h5 ey;cases aE:(vs[j].name==eP.name) with
   | true=>
    simp only [ad,seval];refine bad 5 _ _ (bx.aU (bz.aU (cd.aU (bK.aU ey)))) (by simp [ak]) (by decide) fun q=>(gC q).2 vs[j] ?_ (by simpa using aE);exact List.mem_take_iff_getElem.2 ⟨j,by omega,rfl⟩
   | false=>
    simp only [ad,seval,lp];refine ⟨_,?_,j+1,rfl,by omega,by simp [ak,gm],by simp [ak,fO],by simp [ak,ho],by simp [ak,dw (x:=(j:Int)+1) (by omega) (by omega)],bK.aU ey,fun l af=> ?_⟩
    ·omega
    ·rw [List.take_add_one,List.mem_append] at af;rcases af with af|af
     ·exact hb l af
     ·simp [AX] at af;subst af;simpa using aE
  ·have:j=i:=by omega
   subst this;have g6:=bK _ _ g4;simp only [ad,seval,decide_eq_false (show ¬(j:Int)<j by omega),fO,ho,g6];refine eQ call47 (pF _ _ _ _ _) ?_;cases az:(decide ((1:Int)<=eP.size)&&decide (eP.size<=150)) with
   | false=>
    simp only [ad,seval];exact bad 1 _ _ (bx.aU (bz.aU (cd.aU bK))) (by simp [ak]) (by decide) fun q=>by have:=(gC q).1;simp [ko,jP,az] at this
   | true=>
   simp only [ad,seval,ho,g6];refine eQ call47 (pF _ _ _ _ _) ?_;cases aB:(decide ((1:Int)<=eP.gM)&&decide (eP.gM<=90)) with
   | false=>
    simp only [ad,seval];exact bad 1 _ _ (bx.aU (bz.aU (cd.aU bK))) (by simp [ak]) (by decide) fun q=>by have:=(gC q).1;simp [ko,jP,aB] at this
   | true=>
   simp only [ad,seval,ho,g6];refine eQ call47 (pF _ _ _ _ _) ?_;cases aX:(decide ((1:Int)<=eP.dQ)&&decide (eP.dQ<=90)) with
   | false=>
    simp only [ad,seval];exact bad 1 _ _ (bx.aU (bz.aU (cd.aU bK))) (by simp [ak]) (by decide) fun q=>by have:=(gC q).1;simp [ko,jP,aX] at this
   | true=>
   simp only [ad,seval,ho,g6];by_cases cp:eP.gM>eP.dQ
   ·simp only [ad,seval,decide_eq_true cp];exact bad 7 _ _ (bx.aU (bz.aU (cd.aU bK))) (by simp [ak]) (by decide) fun q=>by have:=(gC q).1;simp [ko,show ¬eP.gM<=eP.dQ by omega] at this
   simp only [ad,seval,decide_eq_false cp,fO];refine ⟨_,?_,j+1,rfl,by omega,by simp [ak,gm],by simp [ak,dw (x:=(j:Int)+1) (by omega) (by omega)],bz.aU (cd.aU bK),?_⟩
   ·omega
   ·rw [iR,ER];exact ⟨aA,by simp only [ko,jP,an,az,aB,aX,decide_eq_true (show eP.gM<=eP.dQ by omega),Bool.and_self],hb⟩
 ·simp only [ad,seval,decide_eq_false (show ¬(i:Int)<vs.length by omega)];have dt:i=vs.length:=by omega
  rw [dt,List.take_length] at aA;exact done 0 _ _ (bx.aU bz) (by simp [ak]) ⟨fun _=>⟨Ds.1,Ds.2,by rw [pO];omega,pO▸aA⟩,fun _=>rfl⟩
end
abbrev ea(f:Nat)(l:List Value):Value:=.func (.func f) #[] ⟨l⟩
section
variable{main:Bool}{ah:Type}{S:Sys ah}{s:ah}{h:ab}
theorem call278:bP Tryz.prog 278=true:=by kernel_rfl
theorem call279:bP Tryz.prog 279=true:=by kernel_rfl
theorem call280:bP Tryz.prog 280=true:=by kernel_rfl
theorem call281:bP Tryz.prog 281=true:=by kernel_rfl
theorem call282:bP Tryz.prog 282=true:=by kernel_rfl
theorem call283:bP Tryz.prog 283=true:=by kernel_rfl
theorem call284:bP Tryz.prog 284=true:=by kernel_rfl
theorem call285:bP Tryz.prog 285=true:=by kernel_rfl
theorem call286:bP Tryz.prog 286=true:=by kernel_rfl
theorem call287:bP Tryz.prog 287=true:=by kernel_rfl
theorem call288:bP Tryz.prog 288=true:=by kernel_rfl
theorem mN{P:Program}{f:FuncId}{args:Array Value}{l:List Value}{h:ab}[K:KK Next](ck:bP P f=true):au P (sm (ea f l) args) h=K.f (.enter f ⟨args.toList++l⟩) h:=by
 rw [Bs ck];have e:(#[]++args++⟨l⟩:Array Value)=⟨args.toList++l⟩:=Array.toList_inj.1 (by simp);rw [e]
theorem aoO(n:Int):Pure Tryz.prog main S 279 #[.int .i64 n] (.bool (nx n)):=by
 intro s h;refine cc (args:=[.int .i64 n]) Tryz.func279 (by delta Tryz.f279;rfl) Tryz.ntmps279 (by simp) (by kernel_rfl) ?_;simp only [ad,seval];refine eQ call53 (pk _ _ _ _ _) ?_;simp only [ad,seval];exact bT Tryz.results279 (by simp) (by simp [ak,nx])
theorem ajz(p:Int×Int)(lo hi:Int):bI Tryz.prog main S 282 #[jO p,.int .i64 lo,.int .i64 hi] s h fun ai h' v=>ai=s/\h.aD h'/\v=.bool (decide (p.1<=p.2)&&(decide (lo<=p.1)&&decide (p.2<=hi))):=by
 refine cc (args:=[jO p,.int .i64 lo,.int .i64 hi]) Tryz.func282 (by delta Tryz.f282;rfl) Tryz.ntmps282 (by simp) (by kernel_rfl) ?_;simp only [ad,seval,jO];intro c h1 hc e1;have le:=cS hc e1;have g:=cq e1;by_cases a:p.1<=p.2<;>by_cases b:lo<=p.1<;>simp only [ad,seval,g,a,b]<;>exact bT Tryz.results282 (by simp) ⟨rfl,le,by simp [ak]⟩
def pv(p:Int×Int):Bool:=decide (p.1<=p.2)&&(decide (0<=p.1)&&decide (p.2<=999))
theorem Ub(p:Int×Int):pv p=insideOk p 0 999:=by
 rw [Bool.eq_iff_iff];simp [pv,insideOk];omega
theorem aoP(p:Int×Int):bI Tryz.prog main S 281 #[jO p] s h fun ai h' v=>ai=s/\h.aD h'/\v=.bool (pv p):=by
 refine cc (args:=[jO p]) Tryz.func281 (by delta Tryz.f281;rfl) Tryz.ntmps281 (by simp) (by kernel_rfl) ?_;simp only [ad,seval,jO];intro c h1 hc e1;have le:=cS hc e1;have g:=cq e1;simp only [ad,seval,g];refine c0 call282 (ajz p 0 999) fun s2 h2 v ⟨an,az,aB⟩=> ?_;subst an;subst aB;simp only [ad,seval];exact bT Tryz.results281 (by simp) ⟨rfl,le.aU az,by simp [ak,pv]⟩
theorem agI{c:Nat}{n:Int}{w:Bool}{f:Nat×Nat}{q:Nat}(g:h c=some ⟨.cells #[ea 279 []] q f,w⟩):bI Tryz.prog main S 284 #[.int .i64 n,bL c 0] s h fun ai h' v=>ai=s/\h.aD h'/\v=.bool (!nx n):=by
 refine cc (args:=[.int .i64 n,bL c 0]) Tryz.func284 (by delta Tryz.f284;rfl) Tryz.ntmps284 (by simp) (by kernel_rfl) ?_;simp only [ad,seval,g,mN,call279,List.append_nil];refine (aoO _ _ _).mono fun s2 h2 v ⟨an,az,aB⟩=> ?_;subst an;subst az;subst aB;simp only [ad,seval];exact bT Tryz.results284 (by simp) ⟨rfl,.lC _,by simp [ak]⟩
theorem adH{v:Value}{l:List Int}{c:Nat}{w:Bool}{f:Nat×Nat}{q:Nat}(aI:ju h v l)(af:l.length<=1000)(g:h c=some ⟨.cells #[ea 279 []] q f,w⟩):bI Tryz.prog main S 287 #[v,ea 284 [bL c 0]] s h fun ai h' z=>ai=s/\h.aD h'/\∃r,z=.int .i64 r/\(0<=r↔∃n∈l,nx n=false):=by
 refine cc (args:=[v,ea 284 [bL c 0]]) Tryz.func287 (by delta Tryz.f287;rfl) Tryz.ntmps287 (by simp) (by kernel_rfl) ?_;obtain ⟨b,o,dS,rfl,hb⟩:=dx.Cw aI;simp only [ad,seval];refine eG (I:=fun k e d cx aa=>∃i:Nat,k=l.length- i/\i<=l.length/\e 0=.slice b l.length dS/\e 1=ea 284 [bL c 0]/\e 7=.int .i64 l.length/\e 8=.int .i64 i/\d=[]/\cx=s/\h.aD aa/\∀n∈l.take i,nx n=true) (fun k e d cx aa bU=> ?_) (m:=l.length) ⟨0,by simp,by omega,by simp [ak],by simp [ak],by simp [ak],by simp [ak],rfl,rfl,.lC _,by simp⟩;obtain ⟨i,rfl,hi,e0,e1,e7,cH,rfl,fF,bz,aA⟩:=bU;subst fF;simp only [ad,seval,e7,cH];rcases Nat.lt_or_ge i l.length with hc|hc
 ·obtain ⟨mb,rfl,arr,az,f2,w2,hm,al⟩:=hb.resolve_left (by omega);have a0:=al i hc;have dL:=bz _ _ hm;have g2:=bz _ _ g;simp only [ad,seval,decide_eq_true (show (i:Int)<l.length by omega),e0,e1,e7,cH,dL,a0,mN,call284];refine (agI g2).mono fun fQ h3 v ⟨an,az,aB⟩=> ?_;subst an;subst aB;cases ao:nx l[i] with
  | false=>
   simp only [ad,seval];exact bT Tryz.results287 (by simp) ⟨rfl,bz.aU az,i,by simp [ak],fun _=>⟨_,List.getElem_mem hc,ao⟩,fun _=>by omega⟩
  | true=>
   simp only [ad,seval,cH];refine ⟨_,?_,i+1,rfl,by omega,by simp [ak,e0],by simp [ak,e1],by simp [ak,e7],by simp [ak,dw (x:=(i:Int)+1) (by omega) (by omega)],bz.aU az,fun n Dt=> ?_⟩
   ·omega
   ·rw [List.take_add_one,List.mem_append] at Dt;rcases Dt with q|q
    ·exact aA n q
    ·simp [hc] at q;subst q;exact ao
 ·simp only [ad,seval,decide_eq_false (show ¬(i:Int)<l.length by omega)];refine bT Tryz.results287 (by simp) ⟨rfl,bz,-1,by simp [ak],fun q=>by omega,fun ⟨n,ao,q⟩=> ?_⟩;rw [List.take_of_length_le hc] at aA;rw [aA n ao] at q;cases q
theorem acW{v:Value}{l:List Int}{c:Nat}{w:Bool}{f:Nat×Nat}{q:Nat}(aI:ju h v l)(af:l.length<=1000)(g:h c=some ⟨.cells #[ea 279 []] q f,w⟩):bI Tryz.prog main S 283 #[v,ea 284 [bL c 0]] s h fun ai h' z=>ai=s/\h.aD h'/\∃r,z=.bool r/\(r=true↔∃n∈l,nx n=false):=by
 refine cc (args:=[v,ea 284 [bL c 0]]) Tryz.func283 (by delta Tryz.f283;rfl) Tryz.ntmps283 (by simp) (by kernel_rfl) ?_;obtain ⟨b,o,dS,aS,_⟩:=dx.Cw aI;subst aS;simp only [ad,seval];refine c0 call287 (adH aI af g) fun s2 h2 z ⟨an,az,r,aB,aX⟩=> ?_;subst an;subst aB;simp only [ad,seval];exact bT Tryz.results283 (by simp) ⟨rfl,az,_,by simp [ak];rfl,by simp [aX]⟩
theorem aen{v:Value}{l:List Int}(aI:ju h v l)(af:l.length<=1000):bI Tryz.prog main S 278 #[v,ea 279 []] s h fun ai h' z=>ai=s/\h.aD h'/\∃f,z=.int .i64 f/\(f=0↔l.length=4/\∀n∈l,nx n=true):=by
 refine cc (args:=[v,ea 279 []]) Tryz.func278 (by delta Tryz.f278;rfl) Tryz.ntmps278 (by simp) (by kernel_rfl) ?_;obtain ⟨b,o,dS,aS,_⟩:=dx.Cw aI;subst aS;simp only [ad,seval];intro c h1 hc e1;have le:=cS hc e1;have g:=cq e1;by_cases aE:l.length=4
 case neg=>
  have ex:((l.length:Int) != 4)=true:=by simp;omega
  simp only [ad,seval,ex];exact bT Tryz.results278 (by simp) ⟨rfl,le,2,by simp [ak],fun q=>(by cases q),fun q=>(aE q.1).elim⟩
 have ex:((l.length:Int) != 4)=false:=by simp;omega
 simp only [ad,seval,ex];refine c0 call283 (acW (aI.le le) af g) fun s2 h2 z ⟨an,az,r,aB,aX⟩=> ?_;subst an;subst aB;cases r with
 | true=>
  simp only [ad,seval];refine bT Tryz.results278 (by simp) ⟨rfl,le.aU az,1,by simp [ak],fun q=>(by cases q),fun q=> ?_⟩;obtain ⟨n,ao,hw⟩:=aX.1 rfl;rw [q.2 n ao] at hw;cases hw
 | false=>
  simp only [ad,seval];refine bT Tryz.results278 (by simp) ⟨rfl,le.aU az,0,by simp [ak],fun _=>⟨aE,fun n ao=> ?_⟩,fun _=>rfl⟩;cases hw:nx n with
  | true=>rfl
  | false=>exact (Bool.false_ne_true (aX.2 ⟨n,ao,hw⟩)).elim
end
end
end Go.Nk
