/- Part Pau of the proof of ButtBack: lemmas. -/
import Derived.Test.YthgephlghkjiaaaGreatDoorPat
set_option maxRecDepth 100000
set_option maxHeartbeats 4000000
set_option linter.all false
namespace Go.Nk
noncomputable section
open Go Go.Conc Go.Proofs
section
variable{main:Bool}{ah:Type}{S:Sys ah}{s:ah}{h:ab}
theorem agJ{c:Nat}{n:Int×Int}{w:Bool}{f:Nat×Nat}{q:Nat}(g:h c=some ⟨.cells #[ea 281 []] q f,w⟩):bI Tryz.prog main S 286 #[jO n,bL c 0] s h fun ai h' v=>ai=s/\h.aD h'/\v=.bool (!pv n):=by
 refine cc (args:=[jO n,bL c 0]) Tryz.func286 (by delta Tryz.f286;rfl) Tryz.ntmps286 (by simp) (by kernel_rfl) ?_;simp only [ad,seval,jO];intro c1 h1 fe e1;have le:=cS fe e1;have g1:=cq e1;have g0:=le _ _ g;simp only [ad,seval,g0,g1,mN,call281,List.append_nil];refine (aoP n).mono fun s2 h2 v ⟨an,az,aB⟩=> ?_;subst an;subst aB;simp only [ad,seval];exact bT Tryz.results286 (by simp) ⟨rfl,le.aU az,by simp [ak]⟩
theorem adI{v:Value}{l:List (Int×Int)}{c:Nat}{w:Bool}{f:Nat×Nat}{q:Nat}(aI:pr h v l)(af:l.length<=1000)(g:h c=some ⟨.cells #[ea 281 []] q f,w⟩):bI Tryz.prog main S 288 #[v,ea 286 [bL c 0]] s h fun ai h' z=>ai=s/\h.aD h'/\∃r,z=.int .i64 r/\(0<=r↔∃n∈l,pv n=false):=by
 refine cc (args:=[v,ea 286 [bL c 0]]) Tryz.func288 (by delta Tryz.f288;rfl) Tryz.ntmps288 (by simp) (by kernel_rfl) ?_;obtain ⟨b,o,dS,rfl,hb⟩:=dx.Cx aI;simp only [ad,seval];refine eG (I:=fun k e d cx aa=>∃i:Nat,k=l.length- i/\i<=l.length/\e 0=.slice b l.length dS/\e 1=ea 286 [bL c 0]/\e 7=.int .i64 l.length/\e 8=.int .i64 i/\d=[]/\cx=s/\h.aD aa/\∀n∈l.take i,pv n=true) (fun k e d cx aa bU=> ?_) (m:=l.length) ⟨0,by simp,by omega,by simp [ak],by simp [ak],by simp [ak],by simp [ak],rfl,rfl,.lC _,by simp⟩;obtain ⟨i,rfl,hi,e0,e1,e7,cH,rfl,fF,bz,aA⟩:=bU;subst fF;simp only [ad,seval,e7,cH];rcases Nat.lt_or_ge i l.length with hc|hc
 ·obtain ⟨mb,rfl,arr,az,f2,w2,hm,al⟩:=hb.resolve_left (by omega);obtain ⟨a0,a1⟩:=al i hc;have dL:=bz _ _ hm;have g2:=bz _ _ g;simp only [ad,seval,decide_eq_true (show (i:Int)<l.length by omega),e0,e1,e7,cH,dL,a0,a1,mN,call286];refine (agJ g2).mono fun fQ h3 v ⟨an,az,aB⟩=> ?_;subst an;subst aB;cases ao:pv l[i] with
  | false=>
   simp only [ad,seval];exact bT Tryz.results288 (by simp) ⟨rfl,bz.aU az,i,by simp [ak],fun _=>⟨_,List.getElem_mem hc,ao⟩,fun _=>by omega⟩
  | true=>
   simp only [ad,seval,cH];refine ⟨_,?_,i+1,rfl,by omega,by simp [ak,e0],by simp [ak,e1],by simp [ak,e7],by simp [ak,dw (x:=(i:Int)+1) (by omega) (by omega)],bz.aU az,fun n Dt=> ?_⟩
   ·omega
   ·rw [List.take_add_one,List.mem_append] at Dt;rcases Dt with q|q
    ·exact aA n q
    ·simp [hc] at q;subst q;exact ao
 ·simp only [ad,seval,decide_eq_false (show ¬(i:Int)<l.length by omega)];refine bT Tryz.results288 (by simp) ⟨rfl,bz,-1,by simp [ak],fun q=>by omega,fun ⟨n,ao,q⟩=> ?_⟩;rw [List.take_of_length_le hc] at aA;rw [aA n ao] at q;cases q
theorem acX{v:Value}{l:List (Int×Int)}{c:Nat}{w:Bool}{f:Nat×Nat}{q:Nat}(aI:pr h v l)(af:l.length<=1000)(g:h c=some ⟨.cells #[ea 281 []] q f,w⟩):bI Tryz.prog main S 285 #[v,ea 286 [bL c 0]] s h fun ai h' z=>ai=s/\h.aD h'/\∃r,z=.bool r/\(r=true↔∃n∈l,pv n=false):=by
 refine cc (args:=[v,ea 286 [bL c 0]]) Tryz.func285 (by delta Tryz.f285;rfl) Tryz.ntmps285 (by simp) (by kernel_rfl) ?_;obtain ⟨b,o,dS,aS,_⟩:=dx.Cx aI;subst aS;simp only [ad,seval];refine c0 call288 (adI aI af g) fun s2 h2 z ⟨an,az,r,aB,aX⟩=> ?_;subst an;subst aB;simp only [ad,seval];exact bT Tryz.results285 (by simp) ⟨rfl,az,_,by simp [ak];rfl,by simp [aX]⟩
theorem aeo{v:Value}{l:List (Int×Int)}(aI:pr h v l)(af:l.length<=1000):bI Tryz.prog main S 280 #[v,ea 281 []] s h fun ai h' z=>ai=s/\h.aD h'/\∃f,z=.int .i64 f/\(f=0↔l.length=4/\∀n∈l,pv n=true):=by
 refine cc (args:=[v,ea 281 []]) Tryz.func280 (by delta Tryz.f280;rfl) Tryz.ntmps280 (by simp) (by kernel_rfl) ?_;obtain ⟨b,o,dS,aS,_⟩:=dx.Cx aI;subst aS;simp only [ad,seval];intro c h1 hc e1;have le:=cS hc e1;have g:=cq e1;by_cases aE:l.length=4
 case neg=>
  have ex:((l.length:Int) != 4)=true:=by simp;omega
  simp only [ad,seval,ex];exact bT Tryz.results280 (by simp) ⟨rfl,le,2,by simp [ak],fun q=>(by cases q),fun q=>(aE q.1).elim⟩
 have ex:((l.length:Int) != 4)=false:=by simp;omega
 simp only [ad,seval,ex];refine c0 call285 (acX (aI.le le) af g) fun s2 h2 z ⟨an,az,r,aB,aX⟩=> ?_;subst an;subst aB;cases r with
 | true=>
  simp only [ad,seval];refine bT Tryz.results280 (by simp) ⟨rfl,le.aU az,1,by simp [ak],fun q=>(by cases q),fun q=> ?_⟩;obtain ⟨n,ao,hw⟩:=aX.1 rfl;rw [q.2 n ao] at hw;cases hw
 | false=>
  simp only [ad,seval];refine bT Tryz.results280 (by simp) ⟨rfl,le.aU az,0,by simp [ak],fun _=>⟨aE,fun n ao=> ?_⟩,fun _=>rfl⟩;cases hw:pv n with
  | true=>rfl
  | false=>exact (Bool.false_ne_true (aX.2 ⟨n,ao,hw⟩)).elim
end
section
variable{main:Bool}{ah:Type}{S:Sys ah}{s:ah}{h:ab}
theorem call275:bP Tryz.prog 275=true:=by kernel_rfl
theorem call276:bP Tryz.prog 276=true:=by kernel_rfl
theorem call277:bP Tryz.prog 277=true:=by kernel_rfl
theorem call32:bP Tryz.prog 32=true:=by kernel_rfl
def ej.Du(x:ej):Prop:=(1<=x.cI.length/\x.cI.length<=3)/\∀l∈x.cI,l.length=4/\∀n∈l,nx n=true
def ej.Dv(x:ej):Prop:=x.cO.length<=4/\∀l∈x.cO,l.length=4/\∀n∈l,pv n=true
def ej.Dw(x:ej):Prop:=(decide ((0:Int)<=x.fN)&&decide (x.fN<=9999))=true/\(decide ((0:Int)<=x.fH)&&decide (x.fH<=4))=true
theorem ej.GG{x:ej}:x.cu↔x.Du/\x.Dv/\x.Dw:=by
 constructor
 ·intro q;exact ⟨⟨q.lay,q.tP⟩,⟨q.Dq,fun l af=>⟨(q.load l af).1,fun p aK=>by rw [Ub];exact (q.load l af).2 p aK⟩⟩,q.cg,q.gO⟩
 ·rintro ⟨a,b,c⟩;exact ⟨a.1,a.2,b.1,fun l af=>⟨(b.2 l af).1,fun p aK=>by rw [<- Ub];exact (b.2 l af).2 p aK⟩,c.1,c.2⟩
def ej.fits(x:ej):Prop:=(∀l∈x.cI,l.length<=1000)/\∀l∈x.cO,l.length<=1000
theorem ajA{v:Value}{x:ej}(aI:mh h v x)(aP:x.fits):bI Tryz.prog main S 275 #[v] s h fun ai h' z=>ai=s/\h.aD h'/\∃f,z=.int .i64 f/\(f=0↔x.Du):=by
 refine cc (args:=[v]) Tryz.func275 (by delta Tryz.f275;rfl) Tryz.ntmps275 (by simp) (by kernel_rfl) ?_;obtain ⟨v1,v2,rfl,⟨vs,hZ,j2⟩,_⟩:=aI;obtain ⟨p,o,c,rfl,aK⟩:=hZ.one;simp only [ad,seval,b4];intro c1 h1 fe e1;have bx:=cS fe e1;have g1:=cq e1;simp only [ad,seval,g1];have done:∀(q:Int) (e:Env) (h3:ab),h.aD h3->e 2=.int .i64 q->(q=0↔x.Du)->
   er Tryz.prog Tryz.f275 (fun ai h' z=>ai=s/\h.aD h'/\∃f,z=.int .i64 f/\(f=0↔x.Du)) 27 e [] s h3:=fun q e h3 fP e4 aE=>
  bT Tryz.results275 (by simp) ⟨rfl,fP,q,e4,aE⟩
 have nk:=j2.1;refine eQ call53 (pk _ _ _ _ _) ?_;cases n3:(decide ((1:Int)<=vs.length)&&decide ((vs.length:Int)<=3)) with
 | false=>
  simp only [ad,seval];refine done 2 _ _ bx (by simp [ak]) ⟨fun q=>(by cases q),fun q=> ?_⟩;have:=q.1;simp at n3;omega
 | true=>
 have Dr:1<=vs.length/\vs.length<=3:=by simp at n3;omega
 simp only [ad,seval,g1];refine eG (I:=fun k e d cx aa=>∃i:Nat,k=vs.length- i/\i<=vs.length/\e 14=.slice p vs.length c/\e 15=.int .i64 vs.length/\e 16=.int .i64 i/\d=[]/\cx=s/\h1.aD aa/\∀l∈x.cI.take i,l.length=4/\∀n∈l,nx n=true) (fun k e d cx aa bU=> ?_) (m:=vs.length) ⟨0,by simp,by omega,by simp [ak],by simp [ak],by simp [ak],rfl,rfl,.lC _,by simp⟩;obtain ⟨i,rfl,na,dP,ho,e5,rfl,fF,bz,aA⟩:=bU;subst fF;simp only [ad,seval,ho,e5];rcases Nat.lt_or_ge i vs.length with hc|hc
 ·obtain ⟨mb,rfl,arr,q,f,w,hm,gg⟩:=aK.resolve_left (by omega);have f1:=gg i hc;have dL:=bz _ _ (bx _ _ hm);have pP:i<x.cI.length:=by omega
  simp only [ad,seval,decide_eq_true (show (i:Int)<vs.length by omega),dP,ho,e5,dL,f1];intro c3 h3 ed e3;have g3:=cq e3;have A:=dx.le (bx.aU bz) (j2.2 i vs[i] x.cI[i] (by simp) (by simp));obtain ⟨a1,o1,d1,aS,_⟩:=dx.Cw A;rw [aS] at A;simp only [ad,seval,g3,aS];intro h4 e4;have g4:=cq e4;have cd:aa.aD h4:=fq (cS ed e3) ed e4;clear e3 g3 ed;have jJ:x.cI[i]∈x.cI:=List.getElem_mem pP;have iR:x.cI.take (i+1)=x.cI.take i++[x.cI[i]]:=by simp
  simp only [ad,seval,g4];refine c0 call278 (aen (A.le cd) (aP.1 _ jJ)) fun jl h5 z ⟨an,az,r,aB,aX⟩=> ?_;subst an;subst aB;by_cases aE:r=0
  ·subst aE;simp only [ad,seval,show ((0:Int) != 0)=false from rfl,e5];refine ⟨_,?_,i+1,rfl,by omega,by simp [ak,dP],by simp [ak,ho],by simp [ak,dw (x:=(i:Int)+1) (by omega) (by omega)],bz.aU (cd.aU az),fun l af=> ?_⟩
   ·omega
   ·rw [iR,List.mem_append] at af;rcases af with af|af
    ·exact aA l af
    ·rw [List.mem_singleton] at af;subst af;exact aX.1 rfl
  ·have ex:(r != 0)=true:=by simpa using aE
   simp only [ad,seval,ex];exact done r _ _ (bx.aU (bz.aU (cd.aU az))) (by simp [ak]) ⟨fun q=>(aE q).elim,fun q=>(aE (aX.2 (q.2 _ jJ))).elim⟩
 ·simp only [ad,seval,decide_eq_false (show ¬(i:Int)<vs.length by omega)];have dt:i=vs.length:=by omega
  rw [dt,nk,List.take_length] at aA;exact done 0 _ _ (bx.aU bz) (by simp [ak]) ⟨fun _=>⟨nk▸Dr,aA⟩,fun _=>rfl⟩
theorem aep{v:Value}{x:ej}(aI:mh h v x)(aP:x.fits):bI Tryz.prog main S 276 #[v] s h fun ai h' z=>ai=s/\h.aD h'/\∃f,z=.int .i64 f/\(f=0↔x.Dv):=by
 refine cc (args:=[v]) Tryz.func276 (by delta Tryz.f276;rfl) Tryz.ntmps276 (by simp) (by kernel_rfl) ?_;obtain ⟨v1,v2,rfl,_,⟨vs,hZ,j2⟩⟩:=aI;obtain ⟨p,o,c,rfl,aK⟩:=hZ.one;simp only [ad,seval,b4];intro c1 h1 fe e1;have bx:=cS fe e1;have g1:=cq e1;simp only [ad,seval,g1];have done:∀(q:Int) (e:Env) (h3:ab),h.aD h3->e 2=.int .i64 q->(q=0↔x.Dv)->
   er Tryz.prog Tryz.f276 (fun ai h' z=>ai=s/\h.aD h'/\∃f,z=.int .i64 f/\(f=0↔x.Dv)) 26 e [] s h3:=fun q e h3 fP e4 aE=>
  bT Tryz.results276 (by simp) ⟨rfl,fP,q,e4,aE⟩
 have nk:=j2.1;by_cases Dr:vs.length<=4
 case neg=>
  simp only [ad,seval,decide_eq_true (show (vs.length:Int)>4 by omega)];exact done 2 _ _ bx (by simp [ak]) ⟨fun q=>(by cases q),fun q=>by have:=q.1;omega⟩
 simp only [ad,seval,decide_eq_false (show ¬(vs.length:Int)>4 by omega),g1];refine eG (I:=fun k e d cx aa=>∃i:Nat,k=vs.length- i/\i<=vs.length/\e 13=.slice p vs.length c/\e 14=.int .i64 vs.length/\e 15=.int .i64 i/\d=[]/\cx=s/\h1.aD aa/\∀l∈x.cO.take i,l.length=4/\∀n∈l,pv n=true) (fun k e d cx aa bU=> ?_) (m:=vs.length) ⟨0,by simp,by omega,by simp [ak],by simp [ak],by simp [ak],rfl,rfl,.lC _,by simp⟩;obtain ⟨i,rfl,na,dP,ho,e5,rfl,fF,bz,aA⟩:=bU;subst fF;simp only [ad,seval,ho,e5];rcases Nat.lt_or_ge i vs.length with hc|hc
 ·obtain ⟨mb,rfl,arr,q,f,w,hm,gg⟩:=aK.resolve_left (by omega);have f1:=gg i hc;have dL:=bz _ _ (bx _ _ hm);have pP:i<x.cO.length:=by omega
  simp only [ad,seval,decide_eq_true (show (i:Int)<vs.length by omega),dP,ho,e5,dL,f1];intro c3 h3 ed e3;have g3:=cq e3;have A:=dx.le (bx.aU bz) (j2.2 i vs[i] x.cO[i] (by simp) (by simp));obtain ⟨a1,o1,d1,aS,_⟩:=dx.Cx A;rw [aS] at A;simp only [ad,seval,g3,aS];intro h4 e4;have g4:=cq e4;have cd:aa.aD h4:=fq (cS ed e3) ed e4;clear e3 g3 ed;have jJ:x.cO[i]∈x.cO:=List.getElem_mem pP;have iR:x.cO.take (i+1)=x.cO.take i++[x.cO[i]]:=by simp
  simp only [ad,seval,g4];refine c0 call280 (aeo (A.le cd) (aP.2 _ jJ)) fun jl h5 z ⟨an,az,r,aB,aX⟩=> ?_;subst an;subst aB;by_cases aE:r=0
  ·subst aE;simp only [ad,seval,show ((0:Int) != 0)=false from rfl,e5];refine ⟨_,?_,i+1,rfl,by omega,by simp [ak,dP],by simp [ak,ho],by simp [ak,dw (x:=(i:Int)+1) (by omega) (by omega)],bz.aU (cd.aU az),fun l af=> ?_⟩
   ·omega
   ·rw [iR,List.mem_append] at af;rcases af with af|af
    ·exact aA l af
    ·rw [List.mem_singleton] at af;subst af;exact aX.1 rfl
  ·have ex:(r != 0)=true:=by simpa using aE
   simp only [ad,seval,ex];exact done r _ _ (bx.aU (bz.aU (cd.aU az))) (by simp [ak]) ⟨fun q=>(aE q).elim,fun q=>(aE (aX.2 (q.2 _ jJ))).elim⟩
 ·simp only [ad,seval,decide_eq_false (show ¬(i:Int)<vs.length by omega)];have dt:i=vs.length:=by omega
  rw [dt,nk,List.take_length] at aA;exact done 0 _ _ (bx.aU bz) (by simp [ak]) ⟨fun _=>⟨nk▸Dr,aA⟩,fun _=>rfl⟩
theorem agK{v:Value}{x:ej}(aI:mh h v x):bI Tryz.prog main S 277 #[v] s h fun ai h' z=>ai=s/\h.aD h'/\∃f,z=.int .i64 f/\(f=0↔x.Dw):=by
 refine cc (args:=[v]) Tryz.func277 (by delta Tryz.f277;rfl) Tryz.ntmps277 (by simp) (by kernel_rfl) ?_;obtain ⟨v1,v2,rfl,_,_⟩:=aI;simp only [ad,seval,b4];intro c1 h1 fe e1;have bx:=cS fe e1;have g1:=cq e1;simp only [ad,seval,g1];have done:∀(q:Int) (e:Env) (h3:ab),h.aD h3->e 2=.int .i64 q->(q=0↔x.Dw)->
   er Tryz.prog Tryz.f277 (fun ai h' z=>ai=s/\h.aD h'/\∃f,z=.int .i64 f/\(f=0↔x.Dw)) 15 e [] s h3:=fun q e h3 fP e4 aE=>
  bT Tryz.results277 (by simp) ⟨rfl,fP,q,e4,aE⟩
 refine eQ call53 (pk _ _ _ _ _) ?_;cases yI:(decide ((0:Int)<=x.fN)&&decide (x.fN<=9999)) with
 | false=>
  simp only [ad,seval];exact done 1 _ _ bx (by simp [ak]) ⟨fun q=>(by cases q),fun q=>by have:=q.1;rw [yI] at this;cases this⟩
 | true=>
 simp only [ad,seval,g1];refine eQ call53 (pk _ _ _ _ _) ?_;cases n6:(decide ((0:Int)<=x.fH)&&decide (x.fH<=4)) with
 | false=>
  simp only [ad,seval];exact done 1 _ _ bx (by simp [ak]) ⟨fun q=>(by cases q),fun q=>by have:=q.2;rw [n6] at this;cases this⟩
 | true=>
 simp only [ad,seval];exact done 0 _ _ bx (by simp [ak]) ⟨fun _=>⟨yI,n6⟩,fun _=>rfl⟩
end
section
variable{main:Bool}{ah:Type}{S:Sys ah}{s:ah}{h:ab}
theorem aml{a b c:Value}[K:KK Value]:au Tryz.prog (Instr.index 145 (.agg #[a,b,c]) (.int .i64 0)) h=K.f a h:=by kernel_rfl
theorem amm{a b c:Value}[K:KK Value]:au Tryz.prog (Instr.index 145 (.agg #[a,b,c]) (.int .i64 1)) h=K.f b h:=by kernel_rfl
theorem amn{a b c:Value}[K:KK Value]:au Tryz.prog (Instr.index 145 (.agg #[a,b,c]) (.int .i64 2)) h=K.f c h:=by kernel_rfl
theorem amo{a b:Value}[K:KK Value]:au Tryz.prog (Instr.index 147 (.agg #[a,b]) (.int .i64 0)) h=K.f a h:=by kernel_rfl
theorem amp{a b:Value}[K:KK Value]:au Tryz.prog (Instr.index 147 (.agg #[a,b]) (.int .i64 1)) h=K.f b h:=by kernel_rfl
theorem OS{a b c d:Value}[K:KK Value]:au Tryz.prog (Instr.build 119 #[(0,.agg #[a,b,c,d])]) h=K.f (.agg #[a,b,c,d]) h:=by kernel_rfl
theorem Yg{a b:Value}[K:KK Value]:au Tryz.prog (Instr.build 137 #[(0,.agg #[a,b])]) h=K.f (.agg #[a,b]) h:=by kernel_rfl
structure tQ(h:ab):Prop where
 b:∃q f w,h 0=some ⟨.cells #[ea 275 [],ea 276 [],ea 277 []] q f,w⟩
 g:∃q f w,h 1=some ⟨.cells #[ea 289 [],ea 250 []] q f,w⟩
theorem tQ.le{h h':ab}(l:h.aD h')(t:tQ h):tQ h':=by
 obtain ⟨⟨q,f,w,e⟩,⟨j6,pR,w',e'⟩⟩:=t;exact ⟨⟨q,f,w,l _ _ e⟩,⟨j6,pR,w',l _ _ e'⟩⟩
theorem SX{v:Value}{x:ej}(aI:mh h v x)(aP:x.fits)(aj:tQ h):bI Tryz.prog main S 32 #[v] s h fun ai h' z=>ai=s/\h.aD h'/\∃f,z=.int .i64 f/\(f=0↔x.cu):=by
 refine cc (args:=[v]) Tryz.func32 (by delta Tryz.f32;rfl) Tryz.ntmps32 (by simp) (by kernel_rfl) ?_;obtain ⟨v1,v2,aS,_,_⟩:=id aI;obtain ⟨q,f,w,g0⟩:=aj.b;simp only [ad,seval,b4,aS];intro c1 h1 fe e1;have bx:=cS fe e1;have g1:=cq e1;have g0:=bx _ _ g0;simp only [ad,seval,g0];have done:∀(q:Int) (e:Env) (h3:ab),h.aD h3->e 2=.int .i64 q->(q=0↔x.cu)->
   er Tryz.prog Tryz.f32 (fun ai h' z=>ai=s/\h.aD h'/\∃f,z=.int .i64 f/\(f=0↔x.cu)) 18 e [] s h3:=fun q e h3 fP e4 aE=>
  bT Tryz.results32 (by simp) ⟨rfl,fP,q,e4,aE⟩
 refine eG (I:=fun k e d cx aa=>∃i:Nat,k=3- i/\i<=3/\e 1=bL c1 0/\e 6=.agg #[ea 275 [],ea 276 [],ea 277 []]/\e 7=.int .i64 i/\d=[]/\cx=s/\h1.aD aa/\(1<=i->x.Du)/\(2<=i->x.Dv)/\(3<=i->x.Dw)) (fun k e d cx aa bU=> ?_) (m:=3) ⟨0,by simp,by omega,by simp [ak],by simp [ak],by simp [ak],rfl,rfl,.lC _,by omega,by omega,by omega⟩;obtain ⟨i,rfl,na,gm,e6,e7,rfl,fF,bz,a1,a2,a3⟩:=bU;subst fF;have k1:=bz _ _ g1;have m5:=aI.le (bx.aU bz);rw [aS] at m5;obtain rfl|rfl|rfl|rfl:i=0\/i=1\/i=2\/i=3:=by omega
 ·simp only [ad,seval,gm,e6,e7,show decide ((0:Int)<3)=true from rfl,show ((0:Nat):Int)=0 from rfl,aml,k1,OS,mN,call275,List.append_nil];refine (ajA m5 aP).mono fun fQ h3 z ⟨an,az,r,aB,aX⟩=> ?_;subst an;subst aB;by_cases aE:r=0
  ·subst aE;simp only [ad,seval,show ((0:Int) != 0)=false from rfl,e7];refine ⟨3- 1,by omega,1,rfl,by omega,by simp [ak,gm],by simp [ak,e6],by simp [ak];rfl,bz.aU az,fun _=>aX.1 rfl,by omega,by omega⟩
  ·have ex:(r != 0)=true:=by simpa using aE
   simp only [ad,seval,ex];exact done r _ _ (bx.aU (bz.aU az)) (by simp [ak]) ⟨fun q=>(aE q).elim,fun q=>(aE (aX.2 (ej.GG.1 q).1)).elim⟩
 ·simp only [ad,seval,gm,e6,e7,show decide ((1:Int)<3)=true from rfl,show ((1:Nat):Int)=1 from rfl,amm,k1,OS,mN,call276,List.append_nil];refine (aep m5 aP).mono fun fQ h3 z ⟨an,az,r,aB,aX⟩=> ?_;subst an;subst aB;by_cases aE:r=0
  ·subst aE;simp only [ad,seval,show ((0:Int) != 0)=false from rfl,e7];refine ⟨3- 2,by omega,2,rfl,by omega,by simp [ak,gm],by simp [ak,e6],by simp [ak];rfl,bz.aU az,fun _=>a1 (by omega),fun _=>aX.1 rfl,by omega⟩
  ·have ex:(r != 0)=true:=by simpa using aE
   simp only [ad,seval,ex];exact done r _ _ (bx.aU (bz.aU az)) (by simp [ak]) ⟨fun q=>(aE q).elim,fun q=>(aE (aX.2 (ej.GG.1 q).2.1)).elim⟩
 ·simp only [ad,seval,gm,e6,e7,show decide ((2:Int)<3)=true from rfl,show ((2:Nat):Int)=2 from rfl,amn,k1,OS,mN,call277,List.append_nil];refine (agK m5).mono fun fQ h3 z ⟨an,az,r,aB,aX⟩=> ?_;subst an;subst aB;by_cases aE:r=0
  ·subst aE;simp only [ad,seval,show ((0:Int) != 0)=false from rfl,e7];refine ⟨3- 3,by omega,3,rfl,by omega,by simp [ak,gm],by simp [ak,e6],by simp [ak];rfl,bz.aU az,fun _=>a1 (by omega),fun _=>a2 (by omega),fun _=>aX.1 rfl⟩
  ·have ex:(r != 0)=true:=by simpa using aE
   simp only [ad,seval,ex];exact done r _ _ (bx.aU (bz.aU az)) (by simp [ak]) ⟨fun q=>(aE q).elim,fun q=>(aE (aX.2 (ej.GG.1 q).2.2)).elim⟩
 ·simp only [ad,seval,e7,show ((3:Nat):Int)=3 from rfl,show decide ((3:Int)<3)=false from rfl];exact done 0 _ _ (bx.aU bz) (by simp [ak]) ⟨fun _=>ej.GG.2 ⟨a1 (by omega),a2 (by omega),a3 (by omega)⟩,fun _=>rfl⟩
end
def zL:List UInt8:=[97,98,99,100,101,102,103,104,105,106,107,108,109,110,111,112,113,114,115,116,117,118,119,120,121,122,48,49,50,51,52,53,54,55,56,57]
def Cy:List UInt8:=[48,49,50,51,52,53,54,55,56,57]
def yd(cs:List UInt8)(i:Nat):Bool:=cs.any fun c=>Nat.beq c.toNat i
def HP(cs:List UInt8):List Value->Nat->Bool
 | [],_=>true
 | .bool b::l,i=>(match b,yd cs i with|true,true=>true|false,false=>true|_,_=>false)&&HP cs l (i+1)
 | _::_,_=>false
def Cz(cs:List UInt8):Option (Value×aL)->Bool
 | some (.tuple ⟨[.agg ⟨l⟩,.bool true]⟩,_)=>Nat.beq l.length 256&&HP cs l 0
 | _=>false
theorem atE:Cz zL (eH fl iF 60 188 [aW zL] (gn []))=true:=by kernel_rfl
theorem atF:Cz Cy (eH fl iF 60 188 [aW Cy] (gn []))=true:=by kernel_rfl
theorem Vh{cs:List UInt8}:∀{l:List Value} {i:Nat},HP cs l i=true->∀j,j<l.length->l[j]? =some (.bool (yd cs (i+j)))
 | [],i,_,j,ae=>by simp at ae
 | v::l,i,h,j,ae=>by
  cases v<;>first|exact (Bool.false_ne_true h).elim|skip
  rename_i b;simp only [HP,Bool.and_eq_true] at h;cases j with
  | zero=>
   have:b=yd cs i:=by
    cases b<;>cases hb:yd cs i<;>rw [hb] at h<;>simp at h<;>rfl
   simp [this]
  | succ j=>
   have:=Vh h.2 j (by simpa using ae);simp only [List.getElem?_cons_succ];rw [this,show i+1+j=i+(j+1) by omega]
def vE(cs:List UInt8)(l:List Value):Prop:=l.length=256/\∀j,j<256->l[j]? =some (.bool (yd cs j))
theorem aoQ{cs:List UInt8}{w:UInt8}:yd cs w.toNat=cs.contains w:=by
 induction cs with
 | nil=>rfl
 | cons c cs aN=>
  simp only [yd,List.any_cons,List.contains_cons] at aN ⊢;rw [aN];congr 1;rw [Bool.eq_iff_iff,Nat.beq_eq,beq_iff_eq];exact ⟨fun e=>(UInt8.toNat_inj.1 e).symm,fun e=>by rw [e]⟩
section
variable{main:Bool}{ah:Type}{S:Sys ah}{s:ah}{h:ab}
theorem call188:bP Tryz.prog 188=true:=by kernel_rfl
theorem call189:bP Tryz.prog 189=true:=by kernel_rfl
theorem call190:bP Tryz.prog 190=true:=by kernel_rfl
theorem call210:bP Tryz.prog 210=true:=by kernel_rfl
theorem call163:bP Tryz.prog 163=true:=by kernel_rfl
theorem Vi{ρ:bq}:∀{l m:List Value},cV ρ l m->(∀v∈l,∃b,v=.bool b)->m=l
 | [],[],.nil,_=>rfl
 | v::l,w::m,.cons a b,h=>by
  obtain ⟨x,rfl⟩:=h v (by simp);cases a;rw [Vi b fun v aI=>h v (by simp [aI])]
theorem aq0{cs:List UInt8}(aa:Cz cs (eH fl iF 60 188 [aW cs] (gn []))=true):bI Tryz.prog main S 188 #[aW cs] s h fun ai h' z=>ai=s/\h.aD h'/\∃l,z=.tuple #[.agg ⟨l⟩,.bool true]/\vE cs l:=by
 generalize al:eH fl iF 60 188 [aW cs] (gn [])=r at aa;unfold Cz at aa;split at aa
 ·rename_i l H';simp only [Bool.and_eq_true,Nat.beq_eq] at aa;obtain ⟨_,q⟩:=ve (main:=main) (Sy:=S) (s:=s) (h:=h) (bs:=[]) (args':=[aW cs]) al rfl (fun i j b k k' h=>by simp at h) (fun i x b k h=>by simp at h) (.cons (.string _) .nil);refine q.mono fun ai h' bQ ⟨e1,e2,bA,e3,e4,e5⟩=>⟨e1,e2,?_⟩;have R2:vE cs l:=⟨aa.1,fun j ae=>by have:=Vh aa.2 j (by omega);rwa [Nat.zero_add] at this⟩;cases e4 with
  | tuple u=>
   cases u with
   | cons gX fi=>
    cases fi with
    | cons jk pU=>
     cases pU;cases jk;cases gX with
     | agg R3=>
      have:=Vi R3 fun v aI=>by
       obtain ⟨j,ae⟩:=List.mem_iff_getElem?.1 aI;have Dk:=(List.getElem?_eq_some_iff.1 ae).1;have:=R2.2 j (by rw [<- R2.1];exact Dk);rw [ae] at this;exact ⟨_,Option.some.inj this⟩
      subst this;exact ⟨_,rfl,R2⟩
 ·cases aa
end
def HQ(P:Program)(t:Nat):Bool:=match P.underlying t with
 | some (.array _ e)=>(cy P e).isSome
 | _=>false
def Dx(P:Program)(t:Nat):Nat:=match P.underlying t with|some (.array n _)=>n|_=>0
def Dy(P:Program)(t:Nat):Nat:=match P.underlying t with|some (.array _ e)=>(cy P e).getD 0|_=>0
theorem XJ{P:Program}{h:ab}{t c o:Nat}(hk:HQ P t=true){k:IntKind}{x:Int}[K:KK Value]:au P (Instr.indexAt t (bL c o) (.int k x)) h=(0<=x/\x<Dx P t/\K.f (bL c (o+x.toNat*Dy P t)) h):=by
 unfold HQ at hk;split at hk
 ·rename_i n e hu;obtain ⟨bo,hs⟩:=Option.isSome_iff_exists.1 hk;have e1:Dx P t=n:=by simp [Dx,hu]
  have e2:Dy P t=bo:=by simp [Dy,hu,hs]
  rw [e1,e2];simp only [au,Instr.indexAt,asIntOf,Instr.sureAddr,aV,bh,df,hu,Ky,gL,hs,k5];by_cases hi:0<=x/\x<n
  ·simp [hi]
  ·simp only [hi,if_false,JI];refine propext ⟨fun q=> ?_,fun ⟨a,b,_⟩=>(hi ⟨a,b⟩).elim⟩;split at q<;>exact q.elim
 ·cases hk
theorem aq1:HQ Tryz.prog 304=true/\Dx Tryz.prog 304=256/\Dy Tryz.prog 304=1:=⟨by kernel_rfl,by kernel_rfl,by kernel_rfl⟩
theorem xK{h:ab}{l:List UInt8}{k:IntKind}{b:Nat}(h2:b<=l.length)[K:KK Value]:au Tryz.prog (Instr.sliceAt 9 (.string ⟨⟨l⟩⟩) none (some (.int k b)) none) h=K.f (aW (l.take b)) h:=alf sr h2
theorem CB{h:ab}{l:List UInt8}{k:IntKind}{a:Nat}(h2:a<=l.length)[K:KK Value]:au Tryz.prog (Instr.sliceAt 9 (.string ⟨⟨l⟩⟩) (some (.int k a)) none none) h=K.f (aW (l.drop a)) h:=V6 sr h2
theorem Q2{h:ab}{l:List UInt8}{k k':IntKind}{a b:Nat}(h1:a<=b)(h2:b<=l.length)[K:KK Value]:au Tryz.prog (Instr.sliceAt 9 (.string ⟨⟨l⟩⟩) (some (.int k a)) (some (.int k' b)) none) h=K.f (aW ((l.drop a).take (b- a))) h:=anR sr h1 h2
theorem aq2{h:ab}{l:List UInt8}{k:IntKind}(h2:1<=l.length)[K:KK Value]:au Tryz.prog (Instr.sliceAt 9 (.string ⟨⟨l⟩⟩) (some (.int k 1)) none none) h=K.f (aW (l.drop 1)) h:=V6 (a:=1) sr h2
section
variable{main:Bool}{ah:Type}{S:Sys ah}{s:ah}{h:ab}
theorem Tl{c:Nat}{l:List Value}{cs:List UInt8}{w:UInt8}{o:Bool}{f:Nat×Nat}{q:Nat}(g:h c=some ⟨.cells ⟨l⟩ q f,o⟩)(hs:vE cs l):bI Tryz.prog main S 210 #[bL c 0,.int .u8 w.toNat] s h fun ai h' z=>ai=s/\h'=h/\z=.bool (cs.contains w):=by
 refine cc (args:=[bL c 0,.int .u8 w.toNat]) Tryz.func210 (by delta Tryz.f210;rfl) Tryz.ntmps210 (by simp) (by kernel_rfl) ?_;have e:=hs.2 w.toNat w.toNat_lt;rw [aoQ] at e;simp only [ad,seval,XJ,aq1,g,e];have:=w.toNat_lt;refine ⟨by omega,by omega,bT Tryz.results210 (by simp) (by simp [ak])⟩
theorem Zd{n:Nat}(h0:0<n)(h1:n<=90000):IntKind.i64.wrap ((n:Int)- 1)=((n- 1:Nat):Int):=by
 rw [dw (by omega) (by omega)];omega
theorem amq{c:Nat}{L:List Value}{cs:List UInt8}{l:List UInt8}{o:Bool}{f:Nat×Nat}{q:Nat}(g:h c=some ⟨.cells ⟨L⟩ q f,o⟩)(hs:vE cs L)(af:l.length<=90000):
  bI Tryz.prog main S 190 #[aW l,bL c 0] s h fun ai h' z=>ai=s/\h'=h/\∃i,i<=l.length/\z=aW (l.take i)/\(∀w∈l.drop i,cs.contains w=true)/\(0<i->∃w∈l.take i,cs.contains w=false):=by
 refine cc (args:=[aW l,bL c 0]) Tryz.func190 (by delta Tryz.f190;rfl) Tryz.ntmps190 (by simp) (by kernel_rfl) ?_;simp only [ad,seval];refine eG (I:=fun k e d cx aa=>k<=l.length/\e 0=aW (l.take k)/\e 1=bL c 0/\d=[]/\cx=s/\aa=h/\∀w∈l.drop k,cs.contains w=true) (fun k e d cx aa bU=> ?_) (m:=l.length) ⟨Nat.le_refl _,by simp [ak],by simp [ak],rfl,rfl,rfl,by simp⟩;obtain ⟨hk,e0,e1,rfl,rfl,rfl,aA⟩:=bU;have pV:(l.take k).length=k:=by simp;omega
 simp only [ad,seval,e0,ha,pV];rcases Nat.eq_zero_or_pos k with h0|h0
 ·subst h0;simp only [ad,seval,show decide ((((0:Nat):Int))>0)=false from rfl,e0];exact bT Tryz.results190 (by simp) ⟨rfl,rfl,0,by omega,by simp [ak],aA,by omega⟩
 ·have aa:(l.take k)[k- 1]? =some (l[k- 1]'(by omega)):=by
   rw [List.getElem?_take_of_lt (by omega),List.getElem?_eq_getElem]
  simp only [ad,seval,decide_eq_true (show ((k:Int))>0 by omega),e0,e1,ha,pV,Zd h0 (by omega),kj,aa,nV];refine ⟨by omega,?_⟩;refine eQ call210 (Tl g hs) ?_;have hd:∀w∈l.drop (k- 1),w=l[k- 1]\/w∈l.drop k:=fun w hw=>by
   rw [List.drop_eq_getElem_cons (by omega),show k- 1+1=k by omega] at hw;simpa using hw
  have hm:l[k- 1]∈l.take k:=List.mem_take_iff_getElem.2 ⟨k- 1,by omega,rfl⟩;have eD:(l.take k).take (k- 1)=l.take (k- 1):=by rw [List.take_take];congr 1;omega
  generalize l[k- 1]=x at aa hd hm ⊢;cases hc:cs.contains x with
  | false=>
   simp only [ad,seval,e0];exact bT Tryz.results190 (by simp) ⟨rfl,rfl,k,hk,by simp [ak],aA,fun _=>⟨x,hm,hc⟩⟩
  | true=>
   simp only [ad,seval,e0,ha,pV,Zd h0 (by omega),xK,Nat.sub_le,eD];refine ⟨k- 1,by omega,by omega,by simp [ak],by simp [ak,e1],fun w hw=> ?_⟩;rcases hd w hw with q|q
   ·rw [q];exact hc
   ·exact aA w q
theorem amr{c:Nat}{L:List Value}{cs:List UInt8}{l:List UInt8}{o:Bool}{f:Nat×Nat}{q:Nat}(g:h c=some ⟨.cells ⟨L⟩ q f,o⟩)(hs:vE cs L):
  bI Tryz.prog main S 189 #[aW l,bL c 0] s h fun ai h' z=>ai=s/\h'=h/\∃m,z=aW m/\(m=[]->∀w∈l,cs.contains w=true)/\(m≠[]->∃w∈l,cs.contains w=false):=by
 refine cc (args:=[aW l,bL c 0]) Tryz.func189 (by delta Tryz.f189;rfl) Tryz.ntmps189 (by simp) (by kernel_rfl) ?_;simp only [ad,seval];refine eG (I:=fun k e d cx aa=>∃m p,p++m=l/\k=m.length/\e 0=aW m/\e 1=bL c 0/\d=[]/\cx=s/\aa=h/\∀w∈p,cs.contains w=true) (fun k e d cx aa bU=> ?_) (m:=l.length) ⟨l,[],rfl,rfl,by simp [ak],by simp [ak],rfl,rfl,rfl,by simp⟩;obtain ⟨m,p,aK,hk,e0,e1,rfl,rfl,rfl,aA⟩:=bU;subst hk;simp only [ad,seval,e0,ha];cases m with
 | nil=>
  simp only [ad,seval,show decide (((0:Nat):Int)>0)=false from rfl,e0];refine bT Tryz.results189 (by simp) ⟨rfl,rfl,[],by simp [ak],fun _ w hw=>aA w (by rw [<- aK] at hw;simpa using hw),fun q=>(q rfl).elim⟩
 | cons x m=>
  have sU:e 0=.string ⟨⟨x::m⟩⟩:=e0;simp only [ad,seval,decide_eq_true (show ((m.length+1:Nat):Int)>0 by omega),sU,e1,kj,show (x::m)[Int.toNat 0]? =some x from rfl,nV];refine eQ call210 (Tl g hs) ?_;cases hc:cs.contains x with
  | false=>
   simp only [ad,seval,sU];exact bT Tryz.results189 (by simp) ⟨rfl,rfl,x::m,by simp [ak],fun q=>(by cases q),fun _=>⟨x,by rw [<- aK];simp,hc⟩⟩
  | true=>
   simp only [ad,seval,sU,aq2,show (1<=m.length+1)=True by simp,List.drop_succ_cons,List.drop_zero];refine ⟨m.length,by simp,m,p++[x],by simp [aK],rfl,by simp [ak],by simp [ak,e1],fun w hw=> ?_⟩;rw [List.mem_append] at hw;rcases hw with q|q
   ·exact aA w q
   ·rw [List.mem_singleton] at q;rw [q];exact hc
end
theorem Vj:∀(l p:List Value) (arr:Array Value),arr.toList.length=p.length+l.length->arr.toList.take p.length=p->(l.foldl (fun a v=>(a.1+1,a.2.setIfInBounds a.1 v)) (p.length,arr)).2=⟨p++l⟩
 | [],p,arr,h1,h2=>by
  apply Array.toList_inj.1;simp only [List.foldl_nil,List.append_nil];rw [<- h2];exact (List.take_of_length_le (by rw [h1];simp)).symm
 | v::l,p,arr,h1,h2=>by
  rw [List.foldl_cons];have:=Vj l (p++[v]) (arr.setIfInBounds p.length v) (by simp at h1 ⊢;omega) (by
   have af:p.length<arr.toList.length:=by rw [h1];simp
   rw [Array.toList_setIfInBounds,List.length_append,List.length_singleton,List.take_add_one];rw [List.take_set_of_le (Nat.le_refl _),h2,List.getElem?_set_self af];rfl)
  rw [List.length_append,List.length_singleton] at this;rw [this];simp
theorem atG:(sT Tryz.prog 304).toList.length=256:=by kernel_rfl
theorem aq3:xJ Tryz.prog 304=true:=by kernel_rfl
theorem Yh:m9 Tryz.prog 304=256/\(cy Tryz.prog 304).isSome=true:=⟨by kernel_rfl,by kernel_rfl⟩
theorem vE.one{cs:List UInt8}{l:List Value}(h:vE cs l):l.all jG=true:=by
 rw [List.all_eq_true];intro v aI;obtain ⟨j,ae⟩:=List.mem_iff_getElem?.1 aI;have Dk:=(List.getElem?_eq_some_iff.1 ae).1;have:=h.2 j (by rw [<- h.1];exact Dk);rw [ae] at this;rw [Option.some.inj this];rfl
theorem aq4{h:ab}{c:Nat}{arr:Array Value}{q:Nat}{cs:List UInt8}{l:List Value}(g:h c=some ⟨.cells arr q (0,0),true⟩)(aA:arr.toList.length=256)(hs:vE cs l)[K:KK Unit]:
  au Tryz.prog (Instr.storeAt 304 (bL c 0) (.agg ⟨l⟩)) h=∀h1,h1=h.put c ⟨.cells ⟨l⟩ q (0,0),true⟩->K.f () h1:=by
 have e:=Vj l [] arr (by simp [aA,hs.1]) (by simp);simp only [List.length_nil,List.nil_append] at e;rw [Zc (by simp only [IM,Yh,Kq,hs.1,hs.one];rfl) (by rw [g,Tj,Yh.1];simp at aA;simp [aA])];rw [g,J3,Kq];show (∀h1,h1=h.put c ⟨.cells (l.foldl (fun a v=>(a.1+1,a.2.setIfInBounds a.1 v)) (0,arr)).2 q (0,0),true⟩->K.f () h1)=_;rw [e]
section
variable{main:Bool}{ah:Type}{S:Sys ah}{s:ah}{h:ab}
theorem XK{l cs:List UInt8}(aa:Cz cs (eH fl iF 60 188 [aW cs] (gn []))=true)(x3:2<=cs.length)(af:l.length<=90000):
  bI Tryz.prog main S 163 #[aW l,aW cs] s h fun ai h' z=>ai=s/\h.aD h'/\∃m,z=aW m/\((m==[])=l.all fun w=>cs.contains w):=by
 refine cc (args:=[aW l,aW cs]) Tryz.func163 (by delta Tryz.f163;rfl) Tryz.ntmps163 (by simp) (by kernel_rfl) ?_;simp only [ad,seval,ki];cases l with
 | nil=>
  simp only [ad,seval,show (([]:List UInt8)==[])=true from rfl];exact bT Tryz.results163 (by simp) ⟨rfl,.lC _,[],by simp [ak],rfl⟩
 | cons x l=>
 have e1:(cs==[])=false:=by cases cs with|nil=>simp at x3|cons a b=>rfl
 have e2:((cs.length:Int)==1)=false:=by simp;omega
 simp only [ad,seval,show (x::l==[])=false from rfl,e1,ha,e2,ki];refine c0 call188 (aq0 aa) fun s2 h2 z ⟨an,bM,L,aB,aX⟩=> ?_;subst an;subst aB;simp only [ad,seval,fG,aq3];intro c h3 ed e3;have g3:=cq e3;rw [aq4 (K:=⟨_⟩) g3 atG aX];intro h4 e4;have g4:=cq e4;have cd:h2.aD h4:=fq (cS ed e3) ed e4;simp only [ad,seval];refine c0 call190 (amq g4 aX af) fun jl h5 z ⟨r1,r2,i,hi,r3,gI,ih⟩=> ?_;subst r1;subst r2;subst r3;simp only [ad,seval];refine c0 call189 (amr g4 aX) fun qU h6 z ⟨t1,t2,m,t3,t4,t5⟩=> ?_;subst t1;subst t2;subst t3;simp only [ad,seval];refine bT Tryz.results163 (by simp) ⟨rfl,bM.aU cd,m,by simp [ak],?_⟩;rw [Bool.eq_iff_iff,beq_iff_eq,show (cs.contains x&&l.all fun w=>cs.contains w)=(x::l).all (fun w=>cs.contains w) from rfl,List.all_eq_true];constructor
 ·intro e w hw;have aH:i=0:=by
   rcases Nat.eq_zero_or_pos i with q|q
   ·exact q
   ·obtain ⟨w,hw,aP⟩:=ih q;rw [t4 e w hw] at aP;cases aP
  subst aH;exact gI w (by simpa using hw)
 ·intro aA;cases m with
  | nil=>rfl
  | cons a b=>
   obtain ⟨w,hw,aP⟩:=t5 (by simp);rw [aA w (List.mem_of_mem_take hw)] at aP;cases aP
theorem call290:bP Tryz.prog 290=true:=by kernel_rfl
theorem aaS{i:Int}{b:bn}{h0:ab}[K:hE ah]:iJ Tryz.prog main S b 5 3 (.int .u8 i) s h0=K.f s h0 (.int .i64 (IntKind.i64.wrap i)):=by
 show @au Tryz.prog _ (convert 5 3 (.int .u8 i)) h0 ⟨fun v h=>K.f s h v⟩=_;simp only [au,convert,aV,df,Tryz.underlying5,Tryz.underlying3,Conv.intToInt,bh]
theorem agL(w:UInt8):zL.contains w=(isLet w||kM w):=by
 have:∀n:Fin 256,zL.contains (UInt8.ofNat n.1)=(isLet (UInt8.ofNat n.1)||kM (UInt8.ofNat n.1)):=by decide +kernel
 have q:=this ⟨w.toNat,w.toNat_lt⟩;simpa using q
theorem Vk(l:List UInt8)(af:l.length<=90000):bI Tryz.prog main S 290 #[aW l] s h fun ai h' z=>ai=s/\h.aD h'/\z=.bool (js l):=by
 refine cc (args:=[aW l]) Tryz.func290 (by delta Tryz.f290;rfl) Tryz.ntmps290 (by simp) (by kernel_rfl) ?_;simp only [ad,seval,ha];refine eQ call53 (pk _ _ _ _ _) ?_;cases an:(decide ((1:Int)<=l.length)&&decide ((l.length:Int)<=12)) with
 | false=>
  simp only [ad,seval];exact bT Tryz.results290 (by simp) ⟨rfl,.lC _,by simp [ak,js,an]⟩
 | true=>
 cases l with
 | nil=>simp at an
 | cons w l=>
 simp only [ad,seval,kj,show (w::l)[Int.toNat 0]? =some w from rfl,nV,aaS,dw (x:=(w.toNat:Int)) (by omega) (by have:=w.toNat_lt;omega)];refine eQ call53 (pk _ _ _ _ _) ?_;cases az:(decide ((97:Int)<=w.toNat)&&decide ((w.toNat:Int)<=122)) with
 | false=>
  simp only [ad,seval];exact bT Tryz.results290 (by simp) ⟨rfl,.lC _,by simp only [ak,js,an,isLet,az];simp⟩
 | true=>
 simp only [ad,seval];refine c0 call163 (XK (cs:=zL) atE (by decide) af) fun jl h5 z ⟨r1,r2,m,r3,gI⟩=> ?_;subst r1;subst r3;simp only [ad,seval,ki];refine bT Tryz.results290 (by simp) ⟨rfl,r2,?_⟩;have:∀l:List UInt8,(l.all fun w=>zL.contains w)=l.all fun w=>isLet w||kM w:=fun l=>by congr 1;funext w;exact agL w
 rw [this] at gI;simp only [ak,js,an,isLet,az,gI];simp
end
section
variable{α:Type}{cY:α->List UInt8}{o6:α->Value}{h:ab}
theorem aq5{a b:List UInt8}:Instr.sameNow .string (aW a) (aW b)=some (a==b):=by
 have:((⟨⟨a⟩⟩:ByteArray)==⟨⟨b⟩⟩)=(a==b):=by
  show ((⟨a⟩:Array UInt8)==⟨b⟩)=(a==b);simp
 simp only [Instr.sameNow,this]
theorem OT{k:List UInt8}:∀{es:List MapEntry} {l:List α} {i:Nat},es.map (fun e=>(e.key,e.val))=l.map (fun s=>(aW (cY s),o6 s))->
  (∃s∈l,cY s=k/\∃j,Instr.findNow .string (aW k) es i=some (some (j,o6 s)))\/((∀s∈l,cY s≠k)/\Instr.findNow .string (aW k) es i=some none)
 | [],[],i,_=>.inr ⟨by simp,rfl⟩
 | [],_::_,i,he=>by simp at he
 | _::_,[],i,he=>by simp at he
 | e::es,s::l,i,he=>by
  simp only [List.map_cons,List.cons.injEq,Prod.mk.injEq] at he;obtain ⟨⟨h1,h2⟩,h3⟩:=he;have e1:Instr.sameNow .string (aW k) e.key=some (k==cY s):=by rw [h1];exact aq5
  by_cases hk:k=cY s
  ·refine .inl ⟨s,by simp,hk.symm,i,?_⟩;have:(k==cY s)=true:=by simpa using hk
   simp only [Instr.findNow,e1,this,h2]
  ·have:(k==cY s)=false:=by simpa using hk
   rcases OT (k:=k) (i:=i+1) h3 with ⟨ai,a,b,j,c⟩|⟨a,b⟩
   ·refine .inl ⟨ai,by simp [a],b,j,?_⟩;simp only [Instr.findNow,e1,this];exact c
   ·refine .inr ⟨fun x aa=> ?_,?_⟩
    ·rcases List.mem_cons.1 aa with q|q
     ·rw [q];exact fun e=>hk e.symm
     ·exact a x q
    ·simp only [Instr.findNow,e1,this];exact b
theorem Ww{P:Program}{t el c ck:Nat}{z:Value}{es:Array MapEntry}{o:Bool}{l:List α}{k:List UInt8}{ok:Bool}(h9:P.underlying 9=some .string)(aj:P.underlying t=some (.map 9 el))(aH:zeroOf P el=some z)(g:h c=some ⟨.map es ck,o⟩)(he:es.toList.map (fun e=>(e.key,e.val))=l.map (fun s=>(aW (cY s),o6 s))){K:Value->ab->Prop}
  (yes:∀s∈l,cY s=k->K (if ok then .tuple #[o6 s,.bool true] else o6 s) h) (no:(∀s∈l,cY s≠k)->K (if ok then .tuple #[z,.bool false] else z) h):@au P _ (Instr.lookup t (.map (some c)) (aW k) ok) h ⟨K⟩:=by
 simp only [au,Instr.lookup,aV,df,aj];rw [Eu g rfl rfl];simp only [aV,bh];rw [Em (str:=true) (by simp [pB,h9])];simp only [Instr.findKey,aV,df,h9];rcases OT (k:=k) (i:=0) he with ⟨s,hs,ao,j,aP⟩|⟨ao,aP⟩
 ·rw [aP];have:=yes s hs ao;cases ok<;>exact this
 ·rw [aP];simp only [aV,iD,aH,bh];have:=no ao;cases ok<;>exact this
theorem Uc{P:Program}{t el c ck:Nat}{es:Array MapEntry}{l:List α}{k:List UInt8}{v:Value}(h9:P.underlying 9=some .string)(aj:P.underlying t=some (.map 9 el))(g:h c=some ⟨.map es ck,true⟩)(he:es.toList.map (fun e=>(e.key,e.val))=l.map (fun s=>(aW (cY s),o6 s)))(no:∀s∈l,cY s≠k){K:Unit->ab->Prop}
  (kk:∀h1,h1=h.put c ⟨.map (es.push {key:=aW k,val:=v,born:=ck}) (ck+1),true⟩->K () h1):@au P _ (Instr.mapUpdate t (.map (some c)) (aW k) v) h ⟨K⟩:=by
 simp only [au,Instr.mapUpdate,aV,df,aj];rw [Eu g rfl rfl];simp only [aV];rw [Em (str:=true) (by simp [pB,h9])];simp only [Instr.findKey,aV,df,h9];rcases OT (k:=k) (i:=0) he with ⟨s,hs,ao,j,aP⟩|⟨ao,aP⟩
 ·exact (no s hs ao).elim
 ·rw [aP];simp only [aV,bh];rw [JP g rfl rfl];exact kk _ rfl
theorem Vl{P:Program}{t:Nat}[K:KK Value]:au P (Instr.makeMap t none) h=∀c h1,h c=none->h1=h.put c ⟨.map #[] 0,true⟩->K.f (.map (some c)) h1:=by
 simp only [au,Instr.makeMap,aV,qX,bh];exact propext ⟨fun k c h1 hc e=>by subst e;exact k c hc,fun k c hc=>k c _ hc rfl⟩
theorem XL:Tryz.prog.underlying 376=some (.map 9 51):=by kernel_rfl
theorem XM:Tryz.prog.underlying 375=some (.map 9 4):=by kernel_rfl
theorem z51:zeroOf Tryz.prog 51=some (.agg #[.string .empty,.int .i64 0,.int .i64 0,.int .i64 0]):=by kernel_rfl
theorem Qw:zeroOf Tryz.prog 4=some (.bool false):=by kernel_rfl
end
section
variable{main:Bool}{ah:Type}{S:Sys ah}{s:ah}{h:ab}
theorem call289:bP Tryz.prog 289=true:=by kernel_rfl
theorem aq6{c ck:Nat}{es:Array MapEntry}{o:Bool}{l:List iB}{k:List UInt8}(g:h c=some ⟨.map es ck,o⟩)(he:es.toList.map (fun e=>(e.key,e.val))=l.map (fun s=>(aW s.name,s.v))){K:Value->ab->Prop}
  (kk:∀(w:iB) (ok:Bool),(ok=true↔∃y∈l,y.name=k)->K (.tuple #[w.v,.bool ok]) h):@au Tryz.prog _ (Instr.lookup 376 (.map (some c)) (.string ⟨⟨k⟩⟩) true) h ⟨K⟩:=
 Ww (ok:=true) sr XL z51 g he (fun s hs ao=>kk s true ⟨fun _=>⟨s,hs,ao⟩,fun _=>rfl⟩) (fun ao=>kk ⟨[],0,0,0⟩ false ⟨fun q=>(by cases q),fun ⟨y,ax,e⟩=>(ao y ax e).elim⟩)
theorem ajB{v:Value}{x:Ground}(aI:lG h v x)(Dz:∀s∈x.dT,s.name.length<=90000):bI Tryz.prog main S 289 #[v] s h fun ai h' z=>ai=s/\h.aD h'/\∃f,z=.int .i64 f/\(f=0↔x.dT.length<=4/\jx x.dT):=by
 refine cc (args:=[v]) Tryz.func289 (by delta Tryz.f289;rfl) Tryz.ntmps289 (by simp) (by kernel_rfl) ?_;obtain ⟨v1,v2,rfl,hZ,mz⟩:=aI;obtain ⟨p,o,c,rfl,aK⟩:=hZ.four;generalize pO:x.dT=vs at*
 simp only [ad,seval,b4];intro c1 h1 fe e1;have bx:=cS fe e1;have g1:=cq e1;simp only [ad,seval,g1];have done:∀(q:Int) (e:Env) (h3:ab),h.aD h3->e 2=.int .i64 q->(q=0↔vs.length<=4/\jx vs)->
   er Tryz.prog Tryz.f289 (fun ai h' z=>ai=s/\h.aD h'/\∃f,z=.int .i64 f/\(f=0↔vs.length<=4/\jx vs)) 54 e [] s h3:=fun q e h3 fP e4 aE=>
  bT Tryz.results289 (by simp) ⟨rfl,fP,q,e4,aE⟩
 have bad:∀(q:Int) (e:Env) (h3:ab),h.aD h3->e 2=.int .i64 q->q≠0->¬(vs.length<=4/\jx vs)->
   er Tryz.prog Tryz.f289 (fun ai h' z=>ai=s/\h.aD h'/\∃f,z=.int .i64 f/\(f=0↔vs.length<=4/\jx vs)) 54 e [] s h3:=fun q e h3 fP e4 h1 h2=>done q e h3 fP e4 ⟨fun q=>(h1 q).elim,fun q=>(h2 q).elim⟩
 by_cases n4:vs.length>4
 ·simp only [ad,seval,decide_eq_true (show (vs.length:Int)>4 by omega)];exact bad 2 _ _ bx (by simp [ak]) (by decide) fun q=>by omega
 simp only [ad,seval,decide_eq_false (show ¬(vs.length:Int)>4 by omega),Vl];intro cm h2 nJ e2;have bM:=cS nJ e2;have ye:=cq e2;have g2:=bM _ _ g1;simp only [ad,seval,g2];refine eG (I:=fun k e d cx aa=>∃(i:Nat) (es:Array MapEntry) (ck:Nat),k=vs.length- i/\i<=vs.length/\e 3=.map (some cm)/\e 16=.slice p vs.length c/\e 17=.int .i64 vs.length/\e 18=.int .i64 i/\d=[]/\cx=s/\h1.aD aa/\aa cm=some ⟨.map es ck,true⟩/\es.toList.map (fun e=>(e.key,e.val))=(vs.take i).map (fun s=>(aW s.name,s.v))/\jx (vs.take i)) (fun k e d cx aa bU=> ?_) (m:=vs.length) ⟨0,#[],0,by simp,by omega,by simp [ak],by simp [ak],by simp [ak],by simp [ak],rfl,rfl,bM,ye,by simp,by simp [jx]⟩;obtain ⟨i,es,ck,rfl,na,e3,DC,my,kY,rfl,fF,bz,dL,lX,aA⟩:=bU;subst fF;simp only [ad,seval,my,kY];rcases Nat.lt_or_ge i vs.length with hc|hc
 ·obtain ⟨mb,rfl,arr,q,f,w,hm,gg⟩:=aK.resolve_left (by omega);obtain ⟨a0,a1,a2,a3⟩:=gg i hc;simp only [b4] at a1 a2 a3;have yc:=bz _ _ (bx _ _ hm);simp only [ad,seval,decide_eq_true (show (i:Int)<vs.length by omega),DC,kY,yc,a0,a1,a2,a3];intro c3 h3 ed fO;have g3:=cq fO;simp only [ad,seval,g3];intro h4 ho;have g4:=cq ho;have cd:aa.aD h4:=fq (cS ed fO) ed ho;have IN:=cd _ _ dL;have iR:vs.take (i+1)=vs.take i++[vs[i]]:=by simp
  have gC:jx vs->k9 vs[i]=true/\∀y∈vs.take i,y.name≠vs[i].name:=fun q=>by
   have:=q.take (i+1);rw [iR,EP] at this;exact this.2
  have nb:=Dz _ (List.getElem_mem hc);generalize vs[i]=eP at g4 iR gC nb ⊢;simp only [ad,seval,g4,e3];refine aq6 IN lX fun w ok cW=> ?_;simp only [ad,seval,fG,iB.v,b4];intro c5 h5 gG lp;have g5:=cq lp;simp only [ad,seval,g5];intro h6 Q3;have dY:h4.aD h6:=fq (cS gG lp) gG Q3;have g6:=dY _ _ g4;have Q4:=dY _ _ IN;simp only [ad,seval,g6];refine c0 call290 (Vk eP.name nb) fun yJ h7 z ⟨r1,ff,r3⟩=> ?_;subst r1;subst r3;have fS:aa.aD h7:=cd.aU (dY.aU ff);have g7:=ff _ _ g6;have IP:=ff _ _ Q4;cases an:js eP.name with
  | false=>
   simp only [ad,seval];exact bad 4 _ _ (bx.aU (bz.aU fS)) (by simp [ak]) (by decide) fun q=>by have:=(gC q.2).1;simp [k9,an] at this
  | true=>
  simp only [ad,seval];cases ok with
  | true=>
   simp only [ad,seval];exact bad 5 _ _ (bx.aU (bz.aU fS)) (by simp [ak]) (by decide) fun q=>by
    obtain ⟨y,ax,e⟩:=cW.1 rfl;exact (gC q.2).2 y ax e
  | false=>
  have hg:∀y∈vs.take i,y.name≠eP.name:=fun y ax e=>Bool.false_ne_true (cW.2 ⟨y,ax,e⟩);simp only [ad,seval,g7];refine eQ call53 (pk _ _ _ _ _) ?_;cases az:(decide ((1:Int)<=eP.dQ)&&decide (eP.dQ<=90)) with
  | false=>
   simp only [ad,seval];exact bad 1 _ _ (bx.aU (bz.aU fS)) (by simp [ak]) (by decide) fun q=>by have:=(gC q.2).1;simp [k9,jP,az] at this
  | true=>
  simp only [ad,seval,g7];refine eQ call53 (pk _ _ _ _ _) ?_;cases aB:(decide ((1:Int)<=eP.size)&&decide (eP.size<=150)) with
  | false=>
   simp only [ad,seval];exact bad 1 _ _ (bx.aU (bz.aU fS)) (by simp [ak]) (by decide) fun q=>by have:=(gC q.2).1;simp [k9,jP,aB] at this
  | true=>
  simp only [ad,seval,g7];refine eQ call53 (pk _ _ _ _ _) ?_;cases aX:(decide ((0:Int)<=eP.iG)&&decide (eP.iG<=4)) with
  | false=>
   simp only [ad,seval];exact bad 1 _ _ (bx.aU (bz.aU fS)) (by simp [ak]) (by decide) fun q=>by have:=(gC q.2).1;simp [k9,jP,aX] at this
  | true=>
  simp only [ad,seval,g7,e3];refine Uc sr XL IP lX hg fun h8 cH=> ?_;have gD:h1.aD h8:=fq (bz.aU fS) nJ cH;simp only [ad,seval,kY];refine ⟨_,?_,i+1,_,ck+1,rfl,by omega,by simp [ak,e3],by simp [ak,DC],by simp [ak,my],by simp [ak,dw (x:=(i:Int)+1) (by omega) (by omega)],gD,cq cH,?_,?_⟩
  ·omega
  ·rw [iR,Array.toList_push,List.map_append,List.map_append,lX];rfl
  ·rw [iR,EP];exact ⟨aA,by simp only [k9,jP,an,az,aB,aX,Bool.and_self],hg⟩
 ·simp only [ad,seval,decide_eq_false (show ¬(i:Int)<vs.length by omega)];have dt:i=vs.length:=by omega
  rw [dt,List.take_length] at aA;exact done 0 _ _ (bx.aU bz) (by simp [ak]) ⟨fun _=>⟨by omega,aA⟩,fun _=>rfl⟩
end
section
variable{main:Bool}{ah:Type}{S:Sys ah}{s:ah}{h:ab}
theorem call250:bP Tryz.prog 250=true:=by kernel_rfl
theorem aq7{c ck:Nat}{es:Array MapEntry}{o:Bool}{l:List je}{k:List UInt8}(g:h c=some ⟨.map es ck,o⟩)(he:es.toList.map (fun e=>(e.key,e.val))=l.map (fun s=>(aW s.name,.bool true))){K:Value->ab->Prop}
  (kk:∀(ok:Bool),(ok=true↔∃y∈l,y.name=k)->K (.bool ok) h):@au Tryz.prog _ (Instr.lookup 375 (.map (some c)) (.string ⟨⟨k⟩⟩) false) h ⟨K⟩:=
 Ww (ok:=false) sr XM Qw g he (fun s hs ao=>kk true ⟨fun _=>⟨s,hs,ao⟩,fun _=>rfl⟩) (fun ao=>kk false ⟨fun q=>(by cases q),fun ⟨y,ax,e⟩=>(ao y ax e).elim⟩)
theorem agM{v:Value}{x:Ground}(aI:lG h v x)(Dz:∀s∈x.ei,s.name.length<=90000):bI Tryz.prog main S 250 #[v] s h fun ai h' z=>ai=s/\h.aD h'/\∃f,z=.int .i64 f/\(f=0↔x.ei.length<=6/\lN x.ei):=by
 refine cc (args:=[v]) Tryz.func250 (by delta Tryz.f250;rfl) Tryz.ntmps250 (by simp) (by kernel_rfl) ?_;obtain ⟨v1,v2,rfl,hZ,mz⟩:=aI;obtain ⟨p,o,c,rfl,aK⟩:=mz.four;generalize pO:x.ei=vs at*
 simp only [ad,seval,b4];intro c1 h1 fe e1;have bx:=cS fe e1;have g1:=cq e1;simp only [ad,seval,g1];have done:∀(q:Int) (e:Env) (h3:ab),h.aD h3->e 2=.int .i64 q->(q=0↔vs.length<=6/\lN vs)->
   er Tryz.prog Tryz.f250 (fun ai h' z=>ai=s/\h.aD h'/\∃f,z=.int .i64 f/\(f=0↔vs.length<=6/\lN vs)) 53 e [] s h3:=fun q e h3 fP e4 aE=>
  bT Tryz.results250 (by simp) ⟨rfl,fP,q,e4,aE⟩
 have bad:∀(q:Int) (e:Env) (h3:ab),h.aD h3->e 2=.int .i64 q->q≠0->¬(vs.length<=6/\lN vs)->
   er Tryz.prog Tryz.f250 (fun ai h' z=>ai=s/\h.aD h'/\∃f,z=.int .i64 f/\(f=0↔vs.length<=6/\lN vs)) 53 e [] s h3:=fun q e h3 fP e4 h1 h2=>done q e h3 fP e4 ⟨fun q=>(h1 q).elim,fun q=>(h2 q).elim⟩
 by_cases n4:vs.length>6
 ·simp only [ad,seval,decide_eq_true (show (vs.length:Int)>6 by omega)];exact bad 2 _ _ bx (by simp [ak]) (by decide) fun q=>by omega
 simp only [ad,seval,decide_eq_false (show ¬(vs.length:Int)>6 by omega),Vl];intro cm h2 nJ e2;have bM:=cS nJ e2;have ye:=cq e2;have g2:=bM _ _ g1;simp only [ad,seval,g2];refine eG (I:=fun k e d cx aa=>∃(i:Nat) (es:Array MapEntry) (ck:Nat),k=vs.length- i/\i<=vs.length/\e 3=.map (some cm)/\e 14=.slice p vs.length c/\e 15=.int .i64 vs.length/\e 16=.int .i64 i/\d=[]/\cx=s/\h1.aD aa/\aa cm=some ⟨.map es ck,true⟩/\es.toList.map (fun e=>(e.key,e.val))=(vs.take i).map (fun s=>(aW s.name,Value.bool true))/\lN (vs.take i)) (fun k e d cx aa bU=> ?_) (m:=vs.length) ⟨0,#[],0,by simp,by omega,by simp [ak],by simp [ak],by simp [ak],by simp [ak],rfl,rfl,bM,ye,by simp,by simp [lN]⟩;obtain ⟨i,es,ck,rfl,na,e3,DC,my,kY,rfl,fF,bz,dL,lX,aA⟩:=bU;subst fF;simp only [ad,seval,my,kY];rcases Nat.lt_or_ge i vs.length with hc|hc
 ·obtain ⟨mb,rfl,arr,q,f,w,hm,gg⟩:=aK.resolve_left (by omega);obtain ⟨a0,a1,a2,a3⟩:=gg i hc;simp only [b4] at a1 a2 a3;have yc:=bz _ _ (bx _ _ hm);simp only [ad,seval,decide_eq_true (show (i:Int)<vs.length by omega),DC,kY,yc,a0,a1,a2,a3];intro c3 h3 ed fO;have g3:=cq fO;simp only [ad,seval,g3];intro h4 ho;have g4:=cq ho;have cd:aa.aD h4:=fq (cS ed fO) ed ho;have IN:=cd _ _ dL;have iR:vs.take (i+1)=vs.take i++[vs[i]]:=by simp
  have gC:lN vs->ko vs[i]=true/\∀y∈vs.take i,y.name≠vs[i].name:=fun q=>by
   have:=q.take (i+1);rw [iR,ER] at this;exact this.2
  have nb:=Dz _ (List.getElem_mem hc);generalize vs[i]=eP at g4 iR gC nb ⊢;simp only [ad,seval,g4];have dY:=ab.aD.lC h4;have g6:=g4;have Q4:=IN;refine c0 call290 (Vk eP.name nb) fun yJ h7 z ⟨r1,ff,r3⟩=> ?_;subst r1;subst r3;have fS:aa.aD h7:=cd.aU (dY.aU ff);have g7:=ff _ _ g6;have IP:=ff _ _ Q4;cases an:js eP.name with
  | false=>
   simp only [ad,seval];exact bad 4 _ _ (bx.aU (bz.aU fS)) (by simp [ak]) (by decide) fun q=>by have:=(gC q.2).1;simp [ko,an] at this
  | true=>
  simp only [ad,seval,g7,e3];refine aq7 IP lX fun ok cW=> ?_;simp only [ad,seval];cases ok with
  | true=>
   simp only [ad,seval];exact bad 5 _ _ (bx.aU (bz.aU fS)) (by simp [ak]) (by decide) fun q=>by
    obtain ⟨y,ax,e⟩:=cW.1 rfl;exact (gC q.2).2 y ax e
  | false=>
  have hg:∀y∈vs.take i,y.name≠eP.name:=fun y ax e=>Bool.false_ne_true (cW.2 ⟨y,ax,e⟩);simp only [ad,seval,g7];refine eQ call53 (pk _ _ _ _ _) ?_;cases az:(decide ((1:Int)<=eP.size)&&decide (eP.size<=150)) with
  | false=>
   simp only [ad,seval];exact bad 1 _ _ (bx.aU (bz.aU fS)) (by simp [ak]) (by decide) fun q=>by have:=(gC q.2).1;simp [ko,jP,az] at this
  | true=>
  simp only [ad,seval,g7];refine eQ call53 (pk _ _ _ _ _) ?_;cases aB:(decide ((1:Int)<=eP.gM)&&decide (eP.gM<=90)) with
  | false=>
   simp only [ad,seval];exact bad 1 _ _ (bx.aU (bz.aU fS)) (by simp [ak]) (by decide) fun q=>by have:=(gC q.2).1;simp [ko,jP,aB] at this
  | true=>
  simp only [ad,seval,g7];refine eQ call53 (pk _ _ _ _ _) ?_;cases aX:(decide ((1:Int)<=eP.dQ)&&decide (eP.dQ<=90)) with
  | false=>
   simp only [ad,seval];exact bad 1 _ _ (bx.aU (bz.aU fS)) (by simp [ak]) (by decide) fun q=>by have:=(gC q.2).1;simp [ko,jP,aX] at this
  | true=>
  simp only [ad,seval,g7];by_cases cp:eP.gM>eP.dQ
  ·simp only [ad,seval,decide_eq_true cp];exact bad 7 _ _ (bx.aU (bz.aU fS)) (by simp [ak]) (by decide) fun q=>by have:=(gC q.2).1;simp [ko,show ¬eP.gM<=eP.dQ by omega] at this
  simp only [ad,seval,decide_eq_false cp,g7,e3];refine Uc sr XM IP lX hg fun h8 cH=> ?_;have gD:h1.aD h8:=fq (bz.aU fS) nJ cH;simp only [ad,seval,kY];refine ⟨_,?_,i+1,_,ck+1,rfl,by omega,by simp [ak,e3],by simp [ak,DC],by simp [ak,my],by simp [ak,dw (x:=(i:Int)+1) (by omega) (by omega)],gD,cq cH,?_,?_⟩
  ·omega
  ·rw [iR,Array.toList_push,List.map_append,List.map_append,lX];rfl
  ·rw [iR,ER];exact ⟨aA,by simp only [ko,jP,an,az,aB,aX,decide_eq_true (show eP.gM<=eP.dQ by omega),Bool.and_self],hg⟩
 ·simp only [ad,seval,decide_eq_false (show ¬(i:Int)<vs.length by omega)];have dt:i=vs.length:=by omega
  rw [dt,List.take_length] at aA;exact done 0 _ _ (bx.aU bz) (by simp [ak]) ⟨fun _=>⟨by omega,aA⟩,fun _=>rfl⟩
end
section
variable{main:Bool}{ah:Type}{S:Sys ah}{s:ah}{h:ab}
theorem call33:bP Tryz.prog 33=true:=by kernel_rfl
def Ground.fits(x:Ground):Prop:=(∀s∈x.dT,s.name.length<=90000)/\∀s∈x.ei,s.name.length<=90000
theorem SC{v:Value}{x:Ground}(aI:lG h v x)(aP:x.fits)(aj:tQ h):bI Tryz.prog main S 33 #[v] s h fun ai h' z=>ai=s/\h.aD h'/\∃f,z=.int .i64 f/\(f=0↔x.cu):=by
 refine cc (args:=[v]) Tryz.func33 (by delta Tryz.f33;rfl) Tryz.ntmps33 (by simp) (by kernel_rfl) ?_;obtain ⟨v1,v2,aS,_,_⟩:=id aI;obtain ⟨q,f,w,g0⟩:=aj.g;simp only [ad,seval,b4,aS];intro c1 h1 fe e1;have bx:=cS fe e1;have g1:=cq e1;have g0:=bx _ _ g0;simp only [ad,seval,g0];have done:∀(q:Int) (e:Env) (h3:ab),h.aD h3->e 2=.int .i64 q->(q=0↔x.cu)->
   er Tryz.prog Tryz.f33 (fun ai h' z=>ai=s/\h.aD h'/\∃f,z=.int .i64 f/\(f=0↔x.cu)) 18 e [] s h3:=fun q e h3 fP e4 aE=>
  bT Tryz.results33 (by simp) ⟨rfl,fP,q,e4,aE⟩
 refine eG (I:=fun k e d cx aa=>∃i:Nat,k=2- i/\i<=2/\e 1=bL c1 0/\e 6=.agg #[ea 289 [],ea 250 []]/\e 7=.int .i64 i/\d=[]/\cx=s/\h1.aD aa/\(1<=i->x.dT.length<=4/\jx x.dT)/\(2<=i->x.ei.length<=6/\lN x.ei)) (fun k e d cx aa bU=> ?_) (m:=2) ⟨0,by simp,by omega,by simp [ak],by simp [ak],by simp [ak],rfl,rfl,.lC _,by omega,by omega⟩;obtain ⟨i,rfl,na,gm,e6,e7,rfl,fF,bz,a1,a2⟩:=bU;subst fF;have k1:=bz _ _ g1;have m5:=aI.le (bx.aU bz);rw [aS] at m5;obtain rfl|rfl|rfl:i=0\/i=1\/i=2:=by omega
 ·simp only [ad,seval,gm,e6,e7,show decide ((0:Int)<2)=true from rfl,show ((0:Nat):Int)=0 from rfl,amo,k1,Yg,mN,call289,List.append_nil];refine (ajB m5 aP.1).mono fun fQ h3 z ⟨an,az,r,aB,aX⟩=> ?_;subst an;subst aB;by_cases aE:r=0
  ·subst aE;simp only [ad,seval,show ((0:Int) != 0)=false from rfl,e7];refine ⟨2- 1,by omega,1,rfl,by omega,by simp [ak,gm],by simp [ak,e6],by simp [ak];rfl,bz.aU az,fun _=>aX.1 rfl,by omega⟩
  ·have ex:(r != 0)=true:=by simpa using aE
   simp only [ad,seval,ex];exact done r _ _ (bx.aU (bz.aU az)) (by simp [ak]) ⟨fun q=>(aE q).elim,fun q=>(aE (aX.2 ⟨q.ns,q.st⟩)).elim⟩
 ·simp only [ad,seval,gm,e6,e7,show decide ((1:Int)<2)=true from rfl,show ((1:Nat):Int)=1 from rfl,amp,k1,Yg,mN,call250,List.append_nil];refine (agM m5 aP.2).mono fun fQ h3 z ⟨an,az,r,aB,aX⟩=> ?_;subst an;subst aB;by_cases aE:r=0
  ·subst aE;simp only [ad,seval,show ((0:Int) != 0)=false from rfl,e7];refine ⟨2- 2,by omega,2,rfl,by omega,by simp [ak,gm],by simp [ak,e6],by simp [ak];rfl,bz.aU az,fun _=>a1 (by omega),fun _=>aX.1 rfl⟩
  ·have ex:(r != 0)=true:=by simpa using aE
   simp only [ad,seval,ex];exact done r _ _ (bx.aU (bz.aU az)) (by simp [ak]) ⟨fun q=>(aE q).elim,fun q=>(aE (aX.2 ⟨q.Ec,q.yH⟩)).elim⟩
 ·simp only [ad,seval,e7,show ((2:Nat):Int)=2 from rfl,show decide ((2:Int)<2)=false from rfl];exact done 0 _ _ (bx.aU bz) (by simp [ak]) ⟨fun _=>⟨(a1 (by omega)).1,(a1 (by omega)).2,(a2 (by omega)).1,(a2 (by omega)).2⟩,fun _=>rfl⟩
end
theorem sk{k:IntKind}{n:Nat}(ao:n<4294967296)(hk:k=.u64\/k=.u32\/k=.i64):k.wrap (n:Int)=n:=by
 rcases hk with rfl|rfl|rfl<;>simp only [IntKind.wrap,IntKind.bits,IntKind.signed]<;>simp<;>omega
def Q5(k:IntKind):Bool:=match k with|.u64=>true|.u32=>true|.i64=>true|_=>false
theorem aoR{k:IntKind}(h:Q5 k=true):k=.u64\/k=.u32\/k=.i64:=by cases k<;>simp [Q5] at h ⊢
section
variable{P:Program}{h:ab}{xt:TypeId}{x y:Operand}{k k':IntKind}[K:KK Value]
theorem KW{a b:Nat}(hb:(b==0)=false)(hk:Q5 k=true)(aA:a<4294967296):au P (cr .quo xt x y (.int k a) (.int k b)) h=K.f (.int k ((a/b:Nat):Int)) h:=by
 have iL:¬((b:Int)=0):=by simp at hb;omega
 have e:k.wrap ((a:Int).tdiv b)=((a/b:Nat):Int):=by
  rw [show (a:Int).tdiv b=((a/b:Nat):Int) by rw [Int.tdiv_eq_ediv_of_nonneg (by omega)];rfl];exact sk (Nat.lt_of_le_of_lt (Nat.div_le_self _ _) aA) (aoR hk)
 have q:(do eqGuard .quo xt x y (.int k a) (.int k b);binOp .quo xt (.int k a) (.int k b):Sem Value)=pure (.int k ((a/b:Nat):Int)):=by
  show (if k≠k then stuck "BinOp: operands of different kinds" else Op.intDiv .quo k a b)=_;simp only [ne_eq,not_true_eq_false,if_false,Op.intDiv,iL,e]
 unfold au cr;rw [q,bh]
theorem KX{a b:Nat}(hb:(b==0)=false):au P (cr .rem xt x y (.int k a) (.int k b)) h=K.f (.int k ((a%b:Nat):Int)) h:=by
 have iL:¬((b:Int)=0):=by simp at hb;omega
 have e:(a:Int).tmod b=((a%b:Nat):Int):=by rw [Int.tmod_eq_emod_of_nonneg (by omega)];rfl
 have q:(do eqGuard .rem xt x y (.int k a) (.int k b);binOp .rem xt (.int k a) (.int k b):Sem Value)=pure (.int k ((a%b:Nat):Int)):=by
  show (if k≠k then stuck "BinOp: operands of different kinds" else Op.intDiv .rem k a b)=_;simp only [ne_eq,not_true_eq_false,if_false,Op.intDiv,iL,e]
 unfold au cr;rw [q,bh]
theorem Vm{a b:Nat}(hb:Nat.ble b k.bits=true):au P (cr .shr xt x y (.int k a) (.int k' b)) h=K.f (.int k ((a/2^b:Nat):Int)) h:=by
 have e:min (b:Int).toNat k.bits=b:=by have:=Nat.le_of_ble_eq_true hb;simp;omega
 have q:(do eqGuard .shr xt x y (.int k a) (.int k' b);binOp .shr xt (.int k a) (.int k' b):Sem Value)=pure (.int k ((a/2^b:Nat):Int)):=by
  show Op.shift .shr k a k' b=_;simp only [Op.shift,if_neg (show ¬(b:Int)<0 by omega),e];congr 2;rw [Int.fdiv_eq_ediv_of_nonneg _ (by exact Int.pow_nonneg (by decide))];rw [show (2:Int)^b=((2^b:Nat):Int) by simp];rfl
 unfold au cr;rw [q,bh]
end
def lz(i:Nat):Nat:=if i=0 then 0 else Nat.log2 i+1
theorem vk{L:List UInt8}{f:Nat->Nat}{i n:Nat}{K:Value->Prop}(hi:i<n)(o4:∀j:Fin n,L[j.1]? =some (UInt8.ofNat (f j.1))/\f j.1<256)(k:K (.int .u8 (f i:Nat))):@Dc L[i]? ⟨K⟩:=by
 obtain ⟨a,b⟩:=o4 ⟨i,hi⟩;rw [a,nV];have:((UInt8.ofNat (f i)).toNat:Int)=(f i:Nat):=by
  have b9:f i<256:=b;simp;omega
 rw [this];exact k
theorem Hh{i:Nat}(hi:i<256):lz i<=8:=by
 have:∀i:Fin 256,lz i.1<=8:=by decide +kernel
 exact this ⟨i,hi⟩
def nc(n:Nat):Nat:=if n<256 then lz n else 8+lz (n/256)
def fK(n:Nat):Nat:=if n<1000 then 3 else 4
def nT(m:Nat):Nat:=m*78913/2^18
theorem aq8{n:Nat}(h0:100<=n)(h1:n<256):nT (nc n)=2:=by
 have:∀n:Fin 256,100<=n.1->nT (lz n.1)=2:=by decide +kernel
 rw [nc,if_pos h1];exact this ⟨n,h1⟩ h0
theorem aq9{n:Nat}(h0:256<=n)(h1:n<10000):(n<512->nT (nc n)=2)/\(512<=n->n<8192->nT (nc n)=3)/\(8192<=n->nT (nc n)=4):=by
 have:∀m:Fin 40,1<=m.1->(m.1<2->nT (8+lz m.1)=2)/\(2<=m.1->m.1<32->nT (8+lz m.1)=3)/\(32<=m.1->nT (8+lz m.1)=4):=by decide +kernel
 obtain ⟨a,b,c⟩:=this ⟨n/256,by omega⟩ (by show 1<=n/256;omega);simp only at a b c;rw [nc,if_neg (by omega)];exact ⟨fun q=>a (by omega),fun q r=>b (by omega) (by omega),fun q=>c (by omega)⟩
theorem ara{n:Nat}(h0:100<=n)(h1:n<10000):nT (nc n)<5/\nT (nc n)+(if n>=10^nT (nc n) then 1 else 0)=fK n:=by
 unfold fK;rcases Nat.lt_or_ge n 256 with q|q
 ·rw [aq8 h0 q];simp;split<;>split<;>omega
 ·obtain ⟨a,b,c⟩:=aq9 q h1;rcases Nat.lt_or_ge n 512 with r|r
  ·rw [a r];simp;split<;>split<;>omega
  ·rcases Nat.lt_or_ge n 8192 with ly|ly
   ·rw [b r ly];simp;split<;>split<;>omega
   ·rw [c ly];simp;split<;>split<;>omega
theorem arb:HQ Tryz.prog 297=true/\Dx Tryz.prog 297=20/\Dy Tryz.prog 297=1:=⟨by kernel_rfl,by kernel_rfl,by kernel_rfl⟩
def oe(h:ab):Prop:=∃arr q f w,h 4=some ⟨.cells arr q f,w⟩/\∀d,d<5->arr[d]? =some (.int .u64 ((10^d:Nat):Int))
theorem oe.le{h h':ab}(l:h.aD h')(t:oe h):oe h':=let ⟨a,q,f,w,e,r⟩:=t;⟨a,q,f,w,l _ _ e,r⟩
section
variable{main:Bool}{ah:Type}{S:Sys ah}{s:ah}{h:ab}
theorem call176:bP Tryz.prog 176=true:=by kernel_rfl
theorem call177:bP Tryz.prog 177=true:=by kernel_rfl
theorem call178:bP Tryz.prog 178=true:=by kernel_rfl
theorem call156:bP Tryz.prog 156=true:=by kernel_rfl
theorem CC{b:bn}{t u:Nat}{k k':IntKind}(aj:Tryz.prog.underlying t=some (.int k))(hu:Tryz.prog.underlying u=some (.int k')){kk:IntKind}{i:Int}[K:hE ah]:iJ Tryz.prog main S b t u (.int kk i) s h=K.f s h (.int k' (k'.wrap i)):=by
 show @au Tryz.prog _ (convert t u (.int kk i)) h ⟨fun v h=>K.f s h v⟩=_;simp only [au,convert,aV,df,aj,hu,Conv.intToInt,bh]
theorem Wx{b:bn}{kk:IntKind}{i:Int}[K:hE ah]:iJ Tryz.prog main S b 206 5 (.int kk i) s h=K.f s h (.int .u8 (IntKind.u8.wrap i)):=CC Tryz.underlying206 Tryz.underlying5
theorem Yi{b:bn}{kk:IntKind}{i:Int}[K:hE ah]:iJ Tryz.prog main S b 5 3 (.int kk i) s h=K.f s h (.int .i64 (IntKind.i64.wrap i)):=CC Tryz.underlying5 Tryz.underlying3
theorem OU{n:Nat}(ao:n<256):IntKind.u8.wrap (n:Int)=n:=by
 simp only [IntKind.wrap,IntKind.bits,IntKind.signed];simp;omega
theorem ams{n:Nat}(ao:n<10000):Pure Tryz.prog main S 177 #[.int .u64 n] (.int .i64 (nc n:Nat)):=by
 intro s h;refine cc (args:=[.int .u64 n]) Tryz.func177 (by delta Tryz.f177;rfl) Tryz.ntmps177 (by simp) (by kernel_rfl) ?_;have w2:∀i:Nat,i<=100->IntKind.i64.wrap (i:Int)=i:=fun i hi=>dw (by omega) (by omega);by_cases h1:n<256
 ·have cl:=Hh h1;simp only [ad,seval,decide_eq_false (show ¬(n:Int)>=4294967296 by omega),decide_eq_false (show ¬(n:Int)>=65536 by omega),decide_eq_false (show ¬(n:Int)>=256 by omega),Wx,OU h1,kj];refine ⟨by omega,vk (f:=lz) h1 (by decide +kernel) ?_⟩;simp only [ad,seval,Yi,w2 _ (show lz n<=100 by omega)];refine bT Tryz.results177 (by simp) ⟨rfl,rfl,?_⟩;simp [ak,nc,h1];exact w2 _ (by omega)
 ·have h2:n/256<256:=by omega
  have cl:=Hh h2;have sh:∀{x y:Operand} {h:ab} [K:KK Value],au Tryz.prog (cr .shr 206 x y (.int .u64 n) (.int .u64 8)) h=K.f (.int .u64 (n/256:Nat)) h:=fun {x y h K}=>Vm (k:=.u64) (k':=.u64) (a:=n) (b:=8) rfl;simp only [ad,seval,decide_eq_false (show ¬(n:Int)>=4294967296 by omega),decide_eq_false (show ¬(n:Int)>=65536 by omega),decide_eq_true (show (n:Int)>=256 by omega),sh,Wx,OU h2,kj];refine ⟨by omega,vk (f:=lz) h2 (by decide +kernel) ?_⟩;simp only [ad,seval,Yi,w2 _ (show lz (n/256)<=100 by omega)];refine bT Tryz.results177 (by simp) ⟨rfl,rfl,?_⟩;simp only [ak,nc,h1,if_false,↓reduceIte];rw [show IntKind.i64.wrap 8=8 from rfl];congr 1;exact (dw (by omega) (by omega)).trans (by omega)
theorem amt{b:Nat}(hb:b<=64):Pure Tryz.prog main S 176 #[.int .i64 b] (.int .i64 (nT b:Nat)):=by
 intro s h;refine cc (args:=[.int .i64 b]) Tryz.func176 (by delta Tryz.f176;rfl) Tryz.ntmps176 (by simp) (by kernel_rfl) ?_;have e:IntKind.i64.wrap ((b:Int)*78913)=((b*78913:Nat):Int):=by
  rw [show (b:Int)*78913=((b*78913:Nat):Int) by omega];exact sk (by omega) (.inr (.inr rfl))
 have sh:∀{x y:Operand} {h:ab} [K:KK Value],au Tryz.prog (cr .shr 3 x y (.int .i64 (b*78913:Nat)) (.int .u64 18)) h=K.f (.int .i64 (nT b:Nat)) h:=fun {x y h K}=>Vm (k:=.i64) (k':=.u64) (a:=b*78913) (b:=18) rfl;simp only [ad,seval,e,sh];exact bT Tryz.results176 (by simp) ⟨rfl,rfl,by simp [ak]⟩
theorem amu{b:Bool}:Pure Tryz.prog main S 178 #[.bool b] (.int .i64 (if b then 1 else 0)):=by
 intro s h;refine cc (args:=[.bool b]) Tryz.func178 (by delta Tryz.f178;rfl) Tryz.ntmps178 (by simp) (by kernel_rfl) ?_;cases b<;>simp only [ad,seval]<;>exact bT Tryz.results178 (by simp) ⟨rfl,rfl,by simp [ak]⟩
theorem adJ{n:Nat}(h0:100<=n)(ao:n<10000)(aj:oe h):bI Tryz.prog main S 156 #[.int .u64 n] s h fun ai h' v=>ai=s/\h'=h/\v=.int .i64 (fK n:Nat):=by
 refine cc (args:=[.int .u64 n]) Tryz.func156 (by delta Tryz.f156;rfl) Tryz.ntmps156 (by simp) (by kernel_rfl) ?_;obtain ⟨arr,q,f,w,g,al⟩:=aj;obtain ⟨d5,azx⟩:=ara h0 ao;have aw7:nc n<=64:=by
  unfold nc;split
  ·have:=Hh (i:=n) (by omega);omega
  ·have:=Hh (i:=n/256) (by omega);omega
 have a0:=al _ d5;simp only [ad,seval];refine eQ call177 (ams ao _ _) ?_;simp only [ad,seval];refine eQ call176 (amt aw7 _ _) ?_;simp only [ad,seval,XJ,arb,g,a0];refine ⟨by omega,by omega,?_⟩;refine eQ call178 (amu _ _) ?_;simp only [ad,seval];refine bT Tryz.results156 (by simp) ⟨rfl,rfl,?_⟩;simp only [ak,↓reduceIte];congr 1;rw [<- azx];have e2:((n:Int)>=((10^nT (nc n):Nat):Int))↔n>=10^nT (nc n):=by omega
 by_cases hc:n>=10^nT (nc n)
 ·rw [if_pos hc,decide_eq_true (e2.2 hc)];exact (dw (by omega) (by omega)).trans (by simp)
 ·rw [if_neg hc,decide_eq_false (fun q=>hc (e2.1 q))];exact (dw (by omega) (by omega)).trans (by simp)
end
end
end Go.Nk
