/- Part Par of the proof of ButtBack: lemmas. -/
import Derived.Conc.Own2
import Derived.Test.YthgephlghkjiaaaGreatDoorPaq
set_option maxRecDepth 100000
set_option maxHeartbeats 4000000
set_option linter.all false
namespace Go.Nk
noncomputable section
open Go Go.Conc Go.Proofs
section
variable{P:Program}{main:Bool}{ah:Type}{S:Sys ah}{s:ah}{h:ab}{b:bn}
theorem U6{fnn:FuncId}{tmps:Array Value}{todo:List Item}{f:FuncId}{c args:Array Value}{ds:List Deferred}{md:FrameMode}{kind:CallKind}{ro:Option Nat}{cs:List Frame}{w:World}(ck:bP P f=true)(m6:md=.returning\/∃ch,md=.panicking ch):
  stepG P main (G ⟨fnn,tmps,todo,{target:=.fn (.func f) c,args:=args}::ds,md,kind,ro⟩ cs) w=.go (G (Frame.enter P f (args++c) .deferred) (⟨fnn,tmps,todo,ds,md,kind,ro⟩::cs)) w #[]:=by
 have hinv:=rZ (T0 (x:=args) (y:=c) (args:=#[]) ck) w #[];have e:(do let d <- Deferred.ofValue (.func (.func f) args c) #[];invoke d.target d.args:Sem Next)=invoke (.fn (.func f) c) args:=by
  simp only [Deferred.ofValue,Array.append_empty];rfl
 rw [sm,e,Array.append_empty] at hinv;rcases m6 with rfl|⟨ch,rfl⟩<;>simp [-Sem.runT_eq,G,stepG,unwind,callDeferred,hinv,GStep.after,seen_none]
theorem JG{r:Nat}{K:List Deferred->ab->Prop}(al:h r=some ⟨.deferred (some []),true⟩)(k:∀h',(∀b x,b≠r->h b=some x->h' b=some x)->K [] h'):bf P (Instr.takeDeferred r) h K:=by
 have e:∀Q:Obj->ab->Prop,bf P (getObj r) h Q=match h r with
  | some x=>ab.mK x.obj=true/\x.obj.isChan=false/\bf P (pure x.obj:Sem Obj) h Q
  | none=>False:=fun Q=>by unfold getObj;rw [bf];rfl
 have e2:∀Q:Unit->ab->Prop,bf P (setObj r (.deferred none)) h Q=match h r with
  | some x=>ab.mK x.obj=true/\(Obj.deferred none).isChan=false/\x.own=true/\bf P (pure ():Sem Unit) (h.put r ⟨.deferred none,true⟩) Q
  | none=>False:=fun Q=>by unfold setObj;rw [bf];rfl
 simp only [Instr.takeDeferred,aV,e,al,ab.mK,Obj.isChan,bh,true_and,e2];exact k _ fun b x hb aa=>by rw [cG hb];exact aa
theorem Y8{t:TypeId}{b0:Nat}{v0 v1 v2 v3:Value}{ty:TypeId}{aY:Nat×Nat}{own:Bool}(aj:gq P t=some (some 4))(hb:h b0=some ⟨.cells #[v0,v1,v2,v3] ty aY,own⟩)[K:hE ah]:
  fa P main S b t (.pointer (some ⟨b0,0,none⟩)) s h=K.f s h (.agg #[v0,v1,v2,v3]):=by
 have dK:h.cell? ⟨b0,0,none⟩=some v0:=by simp [ab.cell?,hb]
 have c1:h.cell? ⟨b0,1,none⟩=some v1:=by simp [ab.cell?,hb]
 have c2:h.cell? ⟨b0,2,none⟩=some v2:=by simp [ab.cell?,hb]
 have c3:h.cell? ⟨b0,3,none⟩=some v3:=by simp [ab.cell?,hb]
 rw [u7 (K:=K) (A:=⟨b0,0,none⟩) hb,By (K:=⟨fun v h=>K.f s h v⟩) aj,p5,p5,p5,p5,Bq];simp only [Nat.add_zero,Nat.zero_add,Nat.reduceAdd,dK,c1,c2,c3,EA];rfl
theorem aot{n:Nat}{e:Env}(h:∀t,n<=t->e t=undef):iH n ⟨Array.ofFn (n:=n) fun i=>e i,[]⟩ e:=by
 refine ⟨by simp,fun t=> ?_⟩;rw [Array.getD_eq_getD_getElem?];by_cases aj:t<n
 ·rw [Array.getElem?_eq_getElem (by simpa using aj)];simp
 ·rw [Array.getElem?_eq_none (by simpa using aj),h t (by omega)];rfl
end
theorem Yc:gq Tryz.prog 119=some (some 4):=by kernel_rfl
theorem call97:bP Tryz.prog 97=true:=by kernel_rfl
theorem call98:bP Tryz.prog 98=true:=by kernel_rfl
theorem qd.mono{main:Bool}{ah:Type}{Sy:Sys ah}{l:Nat}{a b:b6}{s:ah}{h:ab}{Z acp:ah->Prop}(azr:∀s,Z s->acp s)(Y:qd main Sy l a b s h Z):qd main Sy l a b s h acp:=fun h1 dc k' bx aP aK=>by
 obtain ⟨L,o,q,an,az,aB⟩:=Y h1 dc k' bx aP aK;exact ⟨L,o,q,an,az,aB.mono fun ai h' v ⟨r1,r2,r3⟩=>⟨azr _ r1,r2,r3⟩⟩
def jB(bR:Int)(nf:b6->b6->Int)(gf:b6->b6->Bool)(x:b6):Nat->List cT
 | 0=>[]
 | n+1=>if gO 0 [x,fM n]<=bR then (if gf x (fM n) then jB bR nf gf x n++[(nf x (fM n),[x,fM n])] else jB bR nf gf x n) else jB bR nf gf x n
structure aaF(h:ab)(j7 gc l9 mH:Nat)(x:b6)(bR:Int)(fB:FuncId)(fD:Array Value):Prop where
 jK:∃o a m b n i j,h j7=some ⟨.cells #[.slice a 2 m,.slice b 2 n,.int .i64 i,.int .i64 j] 119 (0,0),o⟩
 aou:∃o aO p,h gc=some ⟨.cells #[.slice (some ⟨p,0,none⟩) 1 1] 58 (0,0),o⟩/\qh h p x aO
 hM:∃o,h l9=some ⟨.cells #[.int .i64 bR] 3 (0,0),o⟩
 QM:∃o,h mH=some ⟨.cells #[.func (.func fB) #[] fD] 135 (0,0),o⟩
section
variable{tM tW:TypeId}{os0:eB}{Post:Value->World->Prop}{i:Nat}{s:ay}{h:ab}{bG wg fb bb j7 gc l9 mH:Nat}{fB:FuncId}{fD:Array Value}{nf:b6->b6->Int}{gf:b6->b6->Bool}{B:ab->Prop}{x:b6}{bR:Int}
def rb(wg j7 gc l9 mH bG fb bb:Nat):Array Value:=#[br wg,br j7,br gc,br l9,br mH,br bG,br fb,br bb]
def ath(i:Nat)(bm:ay)(wg:Nat):eZ->Env->List Deferred->ay->ab->Prop:=fun x=>match x with
 | .ext _=>fun _ _ _ _=>False
 | _=>fun e d s h=>∃r bd,d=[{target:=.collected r,args:=#[]},{target:=.fn (.func 98) #[],args:=#[br wg]}]/\h r=some ⟨.deferred (some []),true⟩/\dO i bm s .out 0 bd false (bm.full i)
theorem adB(aa:x∈dv)(O:we false (ep tM tW os0 Post i) B fB fD nf gf)(dM:B h)(hm:s.mu=bG)(bU:s.I=qI s.n0 fb bb)(b7:fb≠bb)(wh:gO 0 [x]<=bR)(OH:s.full i=jB bR nf gf x 8)
  (W:aaF h j7 gc l9 mH x bR fB fD) (cur:dO i s s .out 0 8 false []):
  cF Tryz.prog false (ep tM tW os0 Post i) 38 ⟨97,.deferred,none⟩ zW (ath i s wg) (dE [br wg,br j7,br gc,br l9,br mH,br bG,br fb,br bb]) [] s h:=by
 obtain ⟨fj,a0,m0,b0,n0,i0,azs,hb⟩:=W.jK;obtain ⟨Jt,os,p,aG,Di⟩:=W.aou;obtain ⟨aA6,hs⟩:=W.hM;obtain ⟨Jr,aQ⟩:=W.QM;have rS:∀(b:bn) (K:ay->ab->Value->Prop),@fa Tryz.prog false _ (ep tM tW os0 Post i) b 119 (.pointer (some ⟨j7,0,none⟩)) s h ⟨K⟩=K s h (.agg #[.slice a0 2 m0,.slice b0 2 n0,.int .i64 i0,.int .i64 azs]):=fun b K=>Y8 (K:=⟨K⟩) Yc hb;have lz:∀(b:bn) (K:ay->ab->Value->Prop),@fa Tryz.prog false _ (ep tM tW os0 Post i) b 58 (.pointer (some ⟨gc,0,none⟩)) s h ⟨K⟩=K s h (.slice (some ⟨p,0,none⟩) 1 1):=fun b K=>jN (K:=⟨K⟩) Cr (A:=⟨gc,0,none⟩) aG rfl rfl;have ls:∀(b:bn) (K:ay->ab->Value->Prop),@fa Tryz.prog false _ (ep tM tW os0 Post i) b 3 (.pointer (some ⟨l9,0,none⟩)) s h ⟨K⟩=K s h (.int .i64 bR):=fun b K=>jN (K:=⟨K⟩) xZ (A:=⟨l9,0,none⟩) hs rfl rfl;simp only [bc,undef,seval,akS,VD,p6,p7,XY,br,rS,lz,ls];refine .inl ⟨call99,(alq rfl).mono fun s1 h1 v1 q=> ?_⟩;obtain ⟨rfl,bx,ap,bp,nS,rfl,P8,IJ,awQ⟩:=q;simp only [bc,undef,seval,VD,akR,akQ,p6,p7,Nu];refine JY (x:=#[]) (y:=#[br ap,br bp,br nS]) call140 rfl (by simp) (by simp [aZ,aS]) ?_;refine J0 fun r al l qK af=> ?_;generalize hF:({state:=.ready,pending:=none,fn:=97,tmps:=_,params:=#[16],assign:=Cc,body:=zX,defers:=r}:Loop)=L;have te:L.state=.ready:=by rw [<- hF]
 have wG:L.pending=none:=by rw [<- hF]
 have D8:L.fn=97:=by rw [<- hF]
 have D9:L.params=#[16]:=by rw [<- hF]
 have Bj:L.assign=Cc:=by rw [<- hF]
 have Bl:L.body=zX:=by rw [<- hF]
 generalize jm:(upd _ 15 _:Env)=e at hF ⊢;have azt:∀t,38<=t->e t=undef:=fun t aj=>by
  rw [<- jm];simp only [aZ,dE];rw [if_neg (by omega),if_neg (by omega),if_neg (by omega),if_neg (by omega)];obtain ⟨m,rfl⟩:∃m,t=m+8:=⟨t- 8,by omega⟩;rfl
 have e4:e 4=br mH:=by rw [<- jm];simp [aZ,dE];rfl
 have e5:e 5=br bG:=by rw [<- jm];simp [aZ,dE];rfl
 have e6:e 6=br fb:=by rw [<- jm];simp [aZ,dE];rfl
 have e7:e 7=br bb:=by rw [<- jm];simp [aZ,dE];rfl
 have Bm:iH 38 ⟨L.tmps,[]⟩ e:=by rw [<- hF];exact aot azt
 clear hF jm;have bM:h1.aD ((h1.put r ⟨.deferred (some []),true⟩).put l ⟨.loop L,true⟩):=le_trans (hf al) (hf (by rw [cG qK];exact af));generalize o7:(h1.put r ⟨.deferred (some []),true⟩).put l ⟨.loop L,true⟩=h2 at bM ⊢;have pW:h2 l=some ⟨.loop L,true⟩:=by rw [<- o7,dd]
 have wH:h2 r=some ⟨.deferred (some []),true⟩:=by rw [<- o7,cG (Ne.symm qK),dd]
 have ht:B h2:=O.le _ _ (O.le _ _ dM bx) bM;have bK:=le_trans bx bM;refine bI.mono (fun ai h' v q=> ?_) (aiw (main:=false) (Sy:=ep tM tW os0 Post i) (s:=s1) (h:=h2) (l:=l) (bR:=bR) (o:=os) (x:=x) (p:=p) (fun n ai=>∃bd,8- n<=bd/\dO i s1 ai .out 0 bd false (jB bR nf gf x n)) aa ⟨_,bM _ _ P8⟩ ⟨_,_,_,_,_,_,bM _ _ IJ,rfl,rfl⟩ ⟨_,bM _ _ awQ⟩ (bK _ _ Di) wh ⟨8,by omega,cur⟩ fun n ao s2 h3 cd z=> ?_)
 ·obtain ⟨⟨bd,_,eN⟩,ey⟩:=q;rw [KP (ey _ _ pW) te];refine ⟨wG,?_⟩;simp only [bc,undef,seval];exact ⟨r,bd,rfl,by rw [cG (Ne.symm qK)];exact ey _ _ wH,by rw [OH];exact eN⟩
 ·obtain ⟨bd,sQ,c⟩:=z;refine ⟨fun bY=>⟨bd,by omega,?_⟩,fun hle=> ?_⟩
  ·have e:jB bR nf gf x (n+1)=jB bR nf gf x n:=by rw [jB,if_neg (by omega)]
   rw [e];exact c
  ·have cR:jB bR nf gf x (n+1)=if gf x (fM n) then jB bR nf gf x n++[(nf x (fM n),[x,fM n])] else jB bR nf gf x n:=by rw [jB,if_pos hle]
   obtain ⟨j1,rfl⟩:∃j1,bd=j1+1:=⟨bd- 1,by omega⟩;refine (alN (L:=L) (e0:=e) aa (No ao) ⟨cd _ _ pW,te,wG,D8,D9,Bj,Bl,Bm,e4,e5,e6,e7,⟨Jr,cd _ _ (bK _ _ aQ)⟩⟩ O (O.le _ _ ht cd) hm bU b7 c).mono fun ai ⟨QR,hY,c2⟩=>⟨QR,by omega,by rw [cR];exact c2⟩
end
noncomputable def OI:Code:=Tryz.f68.body.getD .skip
def aqF:Code:=bC OI
def Yd:Code:=bC aqF
def Cg:Code:=bC Yd
def G9:Code:=bC Cg
def Ye:Code:=bC G9
def alO:=aT Ye (.seq (.region _ [_,_,_,_,_,_].toArray _) .ret) rfl
def OJ:Code:=b1 G9
def OK:Code:=bC OJ
def Ha:Code:=b1 OK
def Hb:Code:=b1 Ha
def alP:=aT Hb (.region _ [_].toArray _) rfl
def B0:Code:=bC Ha
def XB:Code:=b1 B0
def zt:List Oper:=[⟨some 34,.load 3 (.tmp 10),3, "ground.go:180",#[],none⟩,⟨some 35,.fieldAddr 137 (.tmp 2) 0,0, "ground.go:180",#[],none⟩,⟨some 36,.fieldAddr 29 (.tmp 35) 0,0, "ground.go:180",#[⟨1,.data⟩],none⟩,⟨some 37,.load 26 (.tmp 36),26, "ground.go:180",#[⟨2,.data⟩],none⟩,⟨some 38,.move (.tmp 11),3, "ground.go:180",#[],none⟩,⟨some 39,.indexAddr 26 (.tmp 37) (.tmp 38),0, "ground.go:180",#[⟨3,.data⟩,⟨4,.data⟩],none⟩,⟨some 40,.fieldAddr 51 (.tmp 39) 3,0, "ground.go:180",#[⟨5,.data⟩],none⟩,⟨some 41,.load 3 (.tmp 40),3, "ground.go:180",#[⟨6,.data⟩],none⟩,⟨some 42,.binOp .add 3 (.tmp 34) (.tmp 41) 3,3, "ground.go:180",#[⟨0,.data⟩,⟨7,.data⟩],none⟩,⟨none,.store 3 (.tmp 10) (.tmp 42),0, "ground.go:180",#[⟨8,.data⟩,⟨0,.phase⟩,⟨1,.phase⟩,⟨2,.phase⟩,⟨3,.phase⟩,⟨4,.phase⟩,⟨5,.phase⟩,⟨6,.phase⟩,⟨7,.phase⟩,⟨8,.phase⟩],none⟩]
def ai6:=aT XB (.region _ (List.toArray zt) _) rfl
def ai7:=aT B0 (.block _ XB) rfl
def alQ:=aT Ha (.rangeFunc _ _ Hb B0) rfl
def alR:=aT OK (.block _ Ha) rfl
def alS:=aT OJ (.seq (.region _ [_,_].toArray _) OK) rfl
def alT:=aT G9 (.seq OJ Ye) rfl
def alU:=aT Cg (.seq (.region _ [_,_].toArray _) G9) rfl
def aov:Code:=b1 Yd
def aow:List Oper:=[⟨some 12,.makeMap 218 none,218, "ground.go:172",#[],none⟩,⟨some 5,.assign (.tmp 12),218, "ground.go:172",#[⟨0,.data⟩,⟨0,.phase⟩],none⟩]
def aox:List Oper:=[⟨some 2,.box 137 (.tmp 0),0, "ground.go:171",#[],none⟩,⟨some 4,.assign (.const (.int .i64 0)),3, "ground.go:171",#[],none⟩]
theorem ai8:Tryz.f68.body=some OI:=by kernel_rfl
theorem aoy:ga 48 OI=true:=by kernel_rfl
noncomputable def Gz:Code:=Tryz.f153.body.getD .skip
def NW:Code:=bC Gz
def NX:Code:=b1 NW
def NY:Code:=b1 NX
def GA:Code:=bC NY
def NZ:Code:=bC GA
def N0:Code:=b1 NZ
def N1:Code:=bC N0
def XC:Code:=bC N1
def U7:=aT XC (.cond _ .ret .skip) rfl
def ai9:=aT N1 (.seq (.region _ [_,_,_,_].toArray _) XC) rfl
def aja:=aT N0 (.seq (.region _ [_,_,_].toArray _) N1) rfl
def ajb:=aT NZ (.block _ N0) rfl
def XD:Code:=b1 GA
def U8:=aT XD (.cond _ .skip (.exit 0)) rfl
def U9:=aT GA (.seq XD NZ) rfl
def ajc:=aT NY (.seq (.region _ [_,_].toArray _) GA) rfl
def ajd:=aT NX (.loop NY) rfl
def Va:=aT NW (.block _ NX) rfl
def aje:=aT Gz (.seq (.region _ [_,_].toArray _) NW) rfl
theorem agw:Tryz.f153.body=some Gz:=by kernel_rfl
theorem alV:ga 14 Gz=true:=by kernel_rfl
noncomputable def GB:Code:=Tryz.f106.body.getD .skip
def XE:Code:=bC GB
def ajf:=aT XE (.seq (.region _ [_,_].toArray _) .ret) rfl
def ajg:=aT GB (.seq (.region _ [_,_].toArray _) XE) rfl
theorem agx:Tryz.f106.body=some GB:=by kernel_rfl
theorem alW:ga 4 GB=true:=by kernel_rfl
section
variable{P:Program}{h:ab}
theorem Bw{l:Nat}{x:Obj}{o:Bool}{K:Obj->ab->Prop}(af:h l=some ⟨x,o⟩)(h1:ab.mK x=true)(h2:x.isChan=false):bf P (getObj l) h K=K x h:=by
 have e:∀Q:Obj->ab->Prop,bf P (getObj l) h Q=match h l with
  | some x=>ab.mK x.obj=true/\x.obj.isChan=false/\bf P (pure x.obj:Sem Obj) h Q
  | none=>False:=fun Q=>by unfold getObj;rw [bf];rfl
 rw [e,af];simp [h1,h2,bh]
theorem agy{l:Nat}{x y:Obj}{K:Unit->ab->Prop}(af:h l=some ⟨x,true⟩)(h1:ab.mK x=true)(h2:y.isChan=false):bf P (setObj l y) h K=K () (h.put l ⟨y,true⟩):=by
 have e:bf P (setObj l y) h K=match h l with
  | some x=>ab.mK x.obj=true/\y.isChan=false/\x.own=true/\bf P (pure ():Sem Unit) (h.put l ⟨y,true⟩) K
  | none=>False:=by unfold setObj;rw [bf];rfl
 rw [e,af];simp [h1,h2,bh]
theorem ajh{t k e m:Nat}{es:Array MapEntry}{ck:Nat}{o:Bool}[K:KK Value](aj:P.underlying t=some (.map k e))(hm:h m=some ⟨.map es ck,o⟩)
  (u:∀it,h it=none->K.f (.pointer (some ⟨it,0,none⟩)) (h.put it ⟨.mapIter (some m) ck #[] ck,true⟩)):au P (Instr.range t (.map (some m))) h:=by
 simp only [au,Instr.range,aV,df,aj,Bw hm rfl rfl,bh,qX];exact u
def ig(es:Array MapEntry)(seen:Array Nat):Array MapEntry:=es.filter fun e=> !seen.contains e.born
theorem agz{it m ck:Nat}{es:Array MapEntry}{seen:Array Nat}{o:Bool}{ty:TypeId}{K:Value->ab->Prop}(hi:h it=some ⟨.mapIter (some m) ck seen ck,true⟩)(hm:h m=some ⟨.map es ck,o⟩)(hb:∀e∈es,e.born<ck)
  (u0:ig es seen=#[]->K (.tuple #[.bool false]) h) (gX:∀e∈ig es seen,K (.tuple #[.bool true,e.key,e.val]) (h.put it ⟨.mapIter (some m) ck (seen.push e.born) ck,true⟩)):bf P (Instr.next (.pointer (some ⟨it,0,none⟩)) false ty) h K:=by
 simp only [Instr.next,aV,Bw hi rfl rfl,Bw hm rfl rfl];have dK:(!seen.isEmpty&& !es.isEmpty&&es.all (fun x:MapEntry=>decide (x.born>=ck)))=false:=by
  cases he:es.isEmpty with
  | true=>simp
  | false=>
   have hs:0<es.size:=Nat.pos_of_ne_zero fun e0=>by rw [Array.size_eq_zero_iff.1 e0] at he;cases he
   have:es.all (fun x:MapEntry=>decide (x.born>=ck))=false:=by
    rw [Array.all_eq_false];exact ⟨0,hs,by simp;exact hb _ (Array.getElem_mem hs)⟩
   rw [this];simp
 rw [dK];simp only [Bool.false_eq_true,if_false];have e1:(ig es seen).filter (fun x:MapEntry=>decide (x.born<ck))=ig es seen:=by
  rw [Array.filter_eq_self];intro e he;have:=(Array.mem_filter.1 he).1;simpa using hb e this
 have e2:(ig es seen).filter (fun x:MapEntry=>decide (x.born>=ck))=#[]:=by
  rw [Array.filter_eq_empty_iff];intro e he;have:=(Array.mem_filter.1 he).1;have:=hb e this;simp;omega
 have el:es.filter (fun e:MapEntry=> !seen.contains e.born)=ig es seen:=rfl;simp only [aV];rw [el];rw [e1,e2,Array.append_empty];rw [yS];by_cases af:ig es seen=#[]
 ·rw [af];have:(Question.mapNext ((if (#[]:Array MapEntry).isEmpty=true then #[none] else #[])++Array.map some (#[]:Array MapEntry)).size).forced=true:=by simp [Question.forced]
  rw [if_pos this];have h0:((if (#[]:Array MapEntry).isEmpty=true then (#[none]:Array (Option MapEntry)) else #[])++Array.map some (#[]:Array MapEntry))[0]? =some none:=by simp
  rw [h0];simp only [bh];exact u0 af
 ·have he:(ig es seen).isEmpty=false:=by
   cases aE:(ig es seen).isEmpty with
   | false=>rfl
   | true=>exact absurd (Array.isEmpty_iff.1 aE) af
  rw [he];simp only [Bool.false_eq_true,if_false,Array.empty_append,Array.size_map];have hs:0<(ig es seen).size:=Nat.pos_of_ne_zero fun e0=>af (Array.size_eq_zero_iff.1 e0);have key:∀i,i<(ig es seen).size->bf P (match (Array.map some (ig es seen))[i]? with
    | some (some e)=>do
     setObj it (.mapIter (some m) ck (seen.push e.born) ck)
     pure (.tuple #[.bool true,e.key,e.val])
    | some none=>pure (.tuple #[.bool false])
    | none=>stuck "Next: no such candidate" :Sem Value) h K:=fun i dt=>by
   have aG:(Array.map some (ig es seen))[i]? =some (some (ig es seen)[i]):=by simp [dt]
   rw [aG];simp only [aV];rw [agy (y:=.mapIter (some m) ck (seen.push (ig es seen)[i].born) ck) hi rfl rfl];simp only [bh];exact gX _ (Array.getElem_mem dt)
  split
  ·exact key 0 hs
  ·intro t;exact key _ (Nat.mod_lt _ hs)
theorem aec{it m ck:Nat}{es:Array MapEntry}{seen:Array Nat}{o o2:Bool}{e:MapEntry}{K:Value->ab->Prop}(hi:h it=some ⟨.mapIter (some m) ck (seen.push e.born) ck,o2⟩)(hm:h m=some ⟨.map es ck,o⟩)(he:e∈es)
  (hu:∀a∈es,∀b∈es,a.born=b.born->a=b) (u:K (.tuple #[e.key,e.val]) h):bf P (Instr.entry (.pointer (some ⟨it,0,none⟩))) h K:=by
 simp only [Instr.entry,aV,Bw hi rfl rfl,Array.back?_push,Bw hm rfl rfl,bne_self_eq_false,Bool.false_eq_true,if_false];have:es.find? (fun x=>x.born==e.born)=some e:=by
  cases aP:es.find? (fun x=>x.born==e.born) with
  | none=>have:=Array.find?_eq_none.1 aP e he;simp at this
  | some y=>
   have h1:=Array.mem_of_find?_eq_some aP;have h2:=Array.find?_some aP;rw [hu y h1 e he (by simpa using h2)]
 rw [this];exact u
end
def jL(f:MapEntry->Int)(l:List MapEntry):Int:=(l.map f).sum
theorem Tg{f:MapEntry->Int}{p:Nat->Bool}:∀{l:List MapEntry} {e:MapEntry},(l.map (·.born)).Nodup->e∈l->p e.born=false->
  jL f (l.filter fun x=> !p x.born)=f e+jL f (l.filter fun x=> !(p x.born||x.born==e.born))/\(l.filter fun x=> !(p x.born||x.born==e.born)).length<(l.filter fun x=> !p x.born).length
 | [],e,_,he,_=>by simp at he
 | a::t,e,ao,he,aK=>by
  simp only [List.map_cons,List.nodup_cons] at ao;obtain ⟨rC,lV⟩:=ao;by_cases QS:a.born=e.born
  ·have:e=a:=by
    rcases List.mem_cons.1 he with rfl|q
    ·rfl
    ·exact absurd (List.mem_map.2 ⟨e,q,QS.symm⟩) rC
   subst this;have Ea:t.filter (fun x=> !(p x.born||x.born==e.born))=t.filter (fun x=> !p x.born):=by
    refine List.filter_congr fun x aa=> ?_;have:x.born≠e.born:=fun h=>rC (List.mem_map.2 ⟨x,aa,h⟩);simp [this]
   rw [List.filter_cons_of_pos (by simp [aK]),List.filter_cons_of_neg (by simp),Ea];exact ⟨by simp [jL],by simp⟩
  ·have het:e∈t:=by
    rcases List.mem_cons.1 he with rfl|q
    ·exact absurd rfl QS
    ·exact q
   obtain ⟨i1,i2⟩:=Tg (f:=f) lV het aK;cases IK:p a.born with
   | true=>
    rw [List.filter_cons_of_neg (by simp [IK]),List.filter_cons_of_neg (by simp [IK])];exact ⟨i1,i2⟩
   | false=>
    rw [List.filter_cons_of_pos (by simp [IK]),List.filter_cons_of_pos (by simp [IK,QS])];refine ⟨?_,by simpa using i2⟩;simp only [jL,List.map_cons,List.sum_cons] at i1 ⊢;rw [i1];omega
theorem E6(es:Array MapEntry)(seen:Array Nat):(ig es seen).toList=es.toList.filter fun x=> !(seen.contains x.born):=by unfold ig;exact Array.toList_filter
theorem aji{f:MapEntry->Int}{es:Array MapEntry}{seen:Array Nat}{e:MapEntry}(ao:(es.toList.map (·.born)).Nodup)(he:e∈ig es seen):
  jL f (ig es seen).toList=f e+jL f (ig es (seen.push e.born)).toList/\(ig es (seen.push e.born)).size<(ig es seen).size:=by
 obtain ⟨h1,h2⟩:=Array.mem_filter.1 he;have aK:seen.contains e.born=false:=by simpa using h2
 obtain ⟨a,b⟩:=Tg (f:=f) (p:=fun n=>seen.contains n) ao (by simpa using h1) aK;have Ju:(ig es (seen.push e.born)).toList=es.toList.filter fun x=> !(seen.contains x.born||x.born==e.born):=by
  rw [E6];refine List.filter_congr fun x _=> ?_;rw [Array.contains_push]
 rw [E6,Ju];refine ⟨a,?_⟩;have e1:=congrArg List.length Ju;have e2:=congrArg List.length (E6 es seen);rw [Array.length_toList] at e1 e2;omega
section
variable{P:Program}{h:ab}
theorem aqG{v:Value}[K:KK Value]:au P (Instr.extract (.tuple #[v]) 0) h=K.f v h:=by rw [fG];rfl
theorem aqH{a b c:Value}[K:KK Value]:au P (Instr.extract (.tuple #[a,b,c]) 0) h=K.f a h:=by rw [fG];rfl
theorem ati{a b:Value}[K:KK Value]:au P (Instr.extract (.tuple #[a,b]) 0) h=K.f a h:=by rw [fG];rfl
end
theorem atj:Tryz.prog.underlying 218=some (.map 3 4):=by kernel_rfl
theorem aqI:gq Tryz.prog 218=some none:=by kernel_rfl
theorem call153:bP Tryz.prog 153=true:=by kernel_rfl
section
variable{main:Bool}{ah:Type}{Sy:Sys ah}{s:ah}{h:ab}
def x8(c:Nat)(h h':ab):Prop:=∀b x,b≠c->h b=some x->h' b=some x
theorem aoz{l cm mb ck c10:Nat}{L:Loop}{es:Array MapEntry}{o o2:Bool}{sE:MapEntry->Int}{kE:MapEntry->Int}{total:Int}(af:h l=some ⟨.loop L,true⟩)(o4:L.params=#[33])(nJ:h cm=some ⟨.cells #[.map (some mb)] 218 (0,0),o⟩)(wi:h mb=some ⟨.map es ck,o2⟩)
  (hb:∀e∈es,e.born<ck) (ao:(es.toList.map (·.born)).Nodup) (hk:∀e∈es,e.key=.int .i64 (kE e)) (h10:h c10=some ⟨.cells #[.int .i64 0] 3 (0,0),true⟩) (aj:jL sE es.toList=total)
  (step:∀h1 a e,e∈es->x8 c10 h h1->h1 c10=some ⟨.cells #[.int .i64 a] 3 (0,0),true⟩->(∃r,0<=r/\a+sE e+r=total/\0<=a)->kq Tryz.prog main Sy l L.fn (L.tmps.setIfInBounds 33 (.int .i64 (kE e))) L.assign L.body s h1 fun ai h' v=>ai=s/\v=.bool true/\x8 c10 h1 h'/\h' c10=some ⟨.cells #[.int .i64 (a+sE e)] 3 (0,0),true⟩)
  (hs:∀e∈es,0<=sE e):
  bI Tryz.prog main Sy 153 #[mM l,br cm] s h fun ai h' v=>ai=s/\x8 c10 h h'/\h' c10=some ⟨.cells #[.int .i64 total] 3 (0,0),true⟩:=by
 refine cc (n:=14) (args:=[mM l,br cm]) Tryz.func153 agw rfl (by simp) alV ?_;have lc:∀(b:bn) (K:ah->ab->Value->Prop),@fa Tryz.prog main _ Sy b 218 (.pointer (some ⟨cm,0,none⟩)) s h ⟨K⟩=K s h (.map (some mb)):=fun b K=>jN (K:=⟨K⟩) aqI (A:=⟨cm,0,none⟩) nJ rfl rfl;simp only [bc,undef,seval,aje,Va,p6,p7,mM,br,lc];refine ajh (K:=⟨_⟩) atj wi fun it hit=> ?_;simp only [bc,undef,seval,Va,ajd];have QT:it≠c10:=fun e=>by subst e;rw [h10] at hit;cases hit
 refine eG (fun m e d ai h'=>d=[]/\ai=s/\e 0=mM l/\e 5=br it/\∃seen a,m=(ig es seen).size/\x8 c10 h h'/\h' it=some ⟨.mapIter (some mb) ck seen ck,true⟩/\h' c10=some ⟨.cells #[.int .i64 a] 3 (0,0),true⟩/\0<=a/\a+jL sE (ig es seen).toList=total) (fun m e d ai h' J=> ?_) (m:=(ig es #[]).size)
  ⟨rfl,rfl,by simp [aZ,dE,mM],by simp [aZ,br],#[],0,rfl,fun b x ui aa=>by rw [cG (fun e=>by subst e;rw [aa] at hit;cases hit)];exact aa,dd,by rw [cG (Ne.symm QT)];exact h10,by omega,by
   rw [show (ig es #[]).toList=es.toList by rw [E6];simp];omega⟩
 obtain ⟨rfl,rfl,e0,e5,seen,a,rfl,pX,hi,hc,aA,Y9⟩:=J;have mr:h' mb=some ⟨.map es ck,o2⟩:=pX mb _ (fun e=>by subst e;rw [h10] at wi;cases wi) wi;simp only [bc,undef,seval,ajc,e5,br];refine agz hi mr hb (fun awR=> ?_) fun cR oY=> ?_
 ·simp only [bc,undef,seval,aqG,U9,U8];refine nt rfl ⟨rfl,pX,?_⟩;have:a=total:=by rw [<- Y9,awR];simp [jL]
  rw [<- this];exact hc
 ·simp only [bc,undef,seval,aqH,U9,U8,ajb,aja];refine .inl ⟨rfl,?_⟩;change bf Tryz.prog (do let x <- Instr.entry _;pure (Next.value x)) _ _;simp only [aV,bh,gF,aZ,Nat.reduceEqDiff,if_false,e5,br];have HI:cR∈es:=(Array.mem_filter.1 oY).1;have aqJ:∀a∈es,∀b∈es,a.born=b.born->a=b:=fun a aA b dW wj=>by
   have key:∀(l:List MapEntry),(l.map (·.born)).Nodup->∀a∈l,∀b∈l,a.born=b.born->a=b:=by
    intro l
    induction l with
    | nil=>intro _ a aA;simp at aA
    | cons c l aN=>
     intro ao a aA b hb wj;simp only [List.map_cons,List.nodup_cons] at ao;rcases List.mem_cons.1 aA with j2|j2
     ·rcases List.mem_cons.1 hb with jc|jc
      ·rw [j2,jc]
      ·exact absurd (List.mem_map.2 ⟨b,jc,by rw [<- wj,j2]⟩:c.born∈l.map (fun x=>x.born)) ao.1
     ·rcases List.mem_cons.1 hb with jc|jc
      ·exact absurd (List.mem_map.2 ⟨a,j2,by rw [wj,jc]⟩:c.born∈l.map (fun x=>x.born)) ao.1
      ·exact aN ao.2 a j2 b jc wj
   exact key es.toList ao a (by simpa using aA) b (by simpa using dW) wj
  refine aec (o:=o2) (o2:=true) (e:=cR) dd (by rw [cG (fun e=>by subst e;rw [mr] at hi;cases hi)];exact mr) HI aqJ ?_;simp only [xd];have atk:=hk cR HI;obtain ⟨an,az⟩:=aji (f:=sE) ao oY;have vT:0<=jL sE (ig es (seen.push cR.born)).toList:=by
   have key:∀l:List MapEntry,(∀e∈l,0<=sE e)->0<=jL sE l:=by
    intro l
    induction l with
    | nil=>intro _;simp [jL]
    | cons c l aN=>
     intro hh;have h1:=hh c (by simp);have h2:=aN fun e he=>hh e (by simp [he]);simp only [jL,List.map_cons,List.sum_cons] at h2 ⊢;omega
   exact key _ fun e he=>by
    have he:e∈ig es (seen.push cR.born):=by simpa using he
    exact hs e (Array.mem_filter.1 he).1
  have QU:x8 c10 h (h'.put it ⟨.mapIter (some mb) ck (seen.push cR.born) ck,true⟩):=fun b x ui aa=>by
   rw [cG (fun e=>by subst e;rw [aa] at hit;cases hit)];exact pX b x ui aa
  have cN:(h'.put it ⟨.mapIter (some mb) ck (seen.push cR.born) ck,true⟩) c10=some ⟨.cells #[.int .i64 a] 3 (0,0),true⟩:=by rw [cG (Ne.symm QT)];exact hc
  rw [atk];have nl:l≠c10:=fun e=>by subst e;rw [h10] at af;cases af
  simp only [bc,undef,seval,ati,ai9,U7,e0,mM];rw [EM (K:=⟨_⟩) (QU l _ nl af) o4];simp only [bc,undef,seval];refine kq.mono (fun s2 h2 v2 ⟨r1,r2,r3,gI⟩=> ?_) (step _ a cR HI QU cN ⟨_,vT,by omega,aA⟩);subst r1;subst r2;simp only [bc,undef,seval,U7];refine ⟨_,az,trivial,trivial,by simp [aZ,e0,mM],by simp [aZ,e5,br],seen.push cR.born,a+sE cR,rfl,fun b x ui aa=>r3 b x ui (QU b x ui aa),r3 it _ QT dd,gI,?_,by omega⟩;have:=hs cR HI;omega
end
section
variable{os0:eB}{Post:Value->World->Prop}{i:Nat}{s:ay}{h:ab}{bG wg fb bb j7 gc l9 mH:Nat}{fB:FuncId}{fD:Array Value}{nf:b6->b6->Int}{gf:b6->b6->Bool}{B:ab->Prop}{x:b6}{bR:Int}
theorem aed(aa:x∈dv)(O:we false (ep 203 210 os0 Post i) B fB fD nf gf)(dM:B h)(hm:s.mu=bG)(rD:s.wg=wg)(bU:s.I=qI s.n0 fb bb)(b7:fb≠bb)(wh:gO 0 [x]<=bR)(OH:s.full i=jB bR nf gf x 8)
  (W:aaF h j7 gc l9 mH x bR fB fD) (cur:dO i s s .out 0 8 false []) (h8:s.cap<=s.n0+8):
  dp Tryz.prog false (ep 203 210 os0 Post i) (fun _ _ _=>False) s h (born Tryz.prog {target:=.fn (.func 97) (rb wg j7 gc l9 mH bG fb bb),args:=#[]}):=by
 have e0:∀w,stepG Tryz.prog false (born Tryz.prog {target:=.fn (.func 97) (rb wg j7 gc l9 mH bG fb bb),args:=#[]}) w=.go (Conc.G (Frame.enter Tryz.prog 97 (#[]++rb wg j7 gc l9 mH bG fb bb) .deferred) [uz]) w #[]:=fun w=>U6 (ds:=[]) (kind:=_) (ro:=_) call97 (.inr ⟨_,rfl⟩);refine dp.ik rfl e0 ?_;have awS:Frame.enter Tryz.prog 97 (#[]++rb wg j7 gc l9 mH bG fb bb) .deferred=(⟨97,.deferred,none⟩:bn).at ⟨(rb wg j7 gc l9 mH bG fb bb)++Array.replicate (38- (rb wg j7 gc l9 mH bG fb bb).size) undef,[]⟩ [.code zW]:=by
  rw [Array.empty_append];simp [Frame.enter,bn.at,Tryz.func97,ahC,show Tryz.f97.ntmps=38 from rfl]
 rw [awS];have r:iH 38 ⟨(rb wg j7 gc l9 mH bG fb bb)++Array.replicate (38- (rb wg j7 gc l9 mH bG fb bb).size) undef,[]⟩ (dE [br wg,br j7,br gc,br l9,br mH,br bG,br fb,br bb]):=by
  refine ⟨by simp [rb],fun t=> ?_⟩;simp only [dE,rb,Array.getD_eq_getD_getElem?,List.getD_eq_getElem?_getD,Array.getElem?_append];by_cases aj:t<8
  ·simp [aj]
  ·simp only [List.size_toArray,List.length_cons,List.length_nil,aj,if_false];rw [List.getElem?_eq_none (by simpa using aj)];simp only [Array.getElem?_replicate];split<;>rfl
 have fin:∀(todo:List Item) (a:Act) (ai:ay) (h':ab),(∃r bd,a.defers=[{target:=.collected r,args:=#[]},{target:=.fn (.func 98) #[],args:=#[br wg]}]/\h' r=some ⟨.deferred (some []),true⟩/\dO i s ai .out 0 bd false (s.full i))->
   dp Tryz.prog false (ep 203 210 os0 Post i) (fun _ _ _=>False) ai h' (Conc.G {(⟨97,.deferred,none⟩:bn).at a todo with mode:=.returning} [uz]):=fun todo a ai h' ⟨r,bd,hd,al,c⟩=>by
  refine wO (g':=fun _=>Conc.G {(⟨97,.deferred,none⟩:bn).at ⟨a.tmps,[{target:=.fn (.func 98) #[],args:=#[br wg]}]⟩ todo with mode:=.returning} [uz]) (fn:=97) (K:=fun v _=>v=[]) rfl (fun _ _ _ _ _ _=>trivial) (JG al fun h' _=>rfl) fun w v w' es h2 e q=> ?_;subst q;refine ⟨JK hd e,?_⟩;have e1:∀w,stepG Tryz.prog false (Conc.G {(⟨97,.deferred,none⟩:bn).at ⟨a.tmps,[{target:=.fn (.func 98) #[],args:=#[br wg]}]⟩ todo with mode:=.returning} [uz]) w=.go (Conc.G (Frame.enter Tryz.prog 98 (#[br wg]++#[]) .deferred) [IF a.tmps todo,uz]) w #[]:=fun w=>U6 (ds:=[]) call98 (.inl rfl);refine dp.ik rfl e1 ?_;have e2:Frame.enter Tryz.prog 98 (#[br wg]++#[]) .deferred=IE wg:=by kernel_rfl
  rw [e2];exact aos c (by rw [c.c7.full]) (by rw [c.c7.wg];exact rD) (by rw [c.c7.cap,c.c7.n0];exact h8)
 have u:=adB (wg:=wg) aa O dM hm bU b7 wh OH W cur;refine yZ (by simp) (yV anC r u) _ [] [uz] fun ex a ai h' ⟨e,r,q⟩=> ?_;cases ex with
 | ext i=>exact q.elim
 | cB=>exact .ik rfl (fun w=>FV rfl) (fin [] a ai h' q)
 | ret=>exact fun k₂=>.ik rfl (fun w=>FW rfl) (fin _ a ai h' q)
end
def aaG:List Value:=[.agg ⟨[.slice (some ⟨12,0,none⟩) 2 2,.slice (some ⟨13,0,none⟩) 2 2,.int .i64 20,.int .i64 1]⟩]
def aaH:Option (Value×aL):=eH fl iF 30 95 aaG (gn [.dead,.dead])
def Dj:aL:=match aaH with|some (_,H)=>H|none=>gn []
def rF(j:Nat):Value:=.slice (some ⟨15+3*j,0,none⟩) 1 1
theorem aoA:aaH=some (.slice (some ⟨38,0,none⟩) 8 dj,Dj):=by kernel_rfl
theorem aaI:Dj.get 38=some (.cs true true 58 [rF 0,rF 1,rF 2,rF 3,rF 4,rF 5,rF 6,rF 7]):=by kernel_rfl
theorem aaJ:∀j,j<8->Dj.get (15+3*j)=some (.cs true false 57 (iw [fM j]))
 | 0,_=>by kernel_rfl
 | 1,_=>by kernel_rfl
 | 2,_=>by kernel_rfl
 | 3,_=>by kernel_rfl
 | 4,_=>by kernel_rfl
 | 5,_=>by kernel_rfl
 | 6,_=>by kernel_rfl
 | 7,_=>by kernel_rfl
 | n+8,h=>by omega
theorem atl(k:Nat):jv k 1=1:=by unfold jv;rw [show lK 1=false by rfl];rfl
theorem HJ(k:Nat):jv k 2=2:=by unfold jv;rw [show lK 2=false by rfl];rfl
def Ct(ρ:bq)(j:Nat):Nat:=match ρ (15+3*j) with|some (b,_)=>b|none=>0
theorem aoB{ρ:bq}{j:Nat}{v:Value}(h:bw ρ (rF j) v):v=.slice (some ⟨Ct ρ j,0,none⟩) 1 1:=by
 unfold rF at h;cases h with
 | sl o n m e=>unfold Ct;rw [e,atl]
theorem Mv{ρ:bq}:∀{l dG:List Value},cV ρ l dG->∀{j:Nat} {v:Value},l[j]? =some v->∃bQ,dG[j]? =some bQ/\bw ρ v bQ
 | _,_,.nil,j,v,h=>by simp at h
 | _,_,.cons a b,0,v,h=>by simp at h;subst h;exact ⟨_,rfl,a⟩
 | _,_,.cons a b,j+1,v,h=>by
  obtain ⟨bQ,h1,h2⟩:=Mv b (j:=j) (by simpa using h);exact ⟨bQ,by simpa using h1,h2⟩
def zI(ba bd:Nat):Value:=.agg #[.slice (some ⟨ba,0,none⟩) 2 2,.slice (some ⟨bd,0,none⟩) 2 2,.int .i64 20,.int .i64 1]
section
variable{main:Bool}{ah:Type}{Sy:Sys ah}{s:ah}{h:ab}
theorem ajj{ba bd:Nat}(b7:ba≠bd):
  bP Tryz.prog 95=true/\bI Tryz.prog main Sy 95 #[zI ba bd] s h fun ai h' v=>ai=s/\h.aD h'/\∃(b k:Nat) (arr:Array Value) (bF:Nat->Nat),v=.slice (some ⟨b,0,none⟩) 8 k/\h' b=some ⟨.cells arr 58 (0,0),true⟩/\h b=none/\
   (∀j,j<8->arr[j]? =some (.slice (some ⟨bF j,0,none⟩) 1 1))/\(∀j,j<8->qh h' (bF j) (fM j) true/\h (bF j)=none):=by
 have aa:eH fl iF 30 95 aaG (gn [.dead,.dead])=some (.slice (some ⟨38,0,none⟩) 8 dj,Dj):=aoA;obtain ⟨ck,q⟩:=ve (main:=main) (Sy:=Sy) (s:=s) (bs:=[(ba,0),(bd,0)]) (h:=h) (args':=[zI ba bd]) aa rfl (fun i j b k k' h1 h2=>by
   match i,j with
   | 0,0=>rfl
   | 0,1=>simp at h1 h2;omega
   | 1,0=>simp at h1 h2;omega
   | 1,1=>rfl
   | i+2,_=>simp at h1
   | 0,j+2=>simp at h2
   | 1,j+2=>simp at h2)
  (fun i x b k h1 h2=>by
   match i with
   | 0=>simp at h1;subst h1;trivial
   | 1=>simp at h1;subst h1;trivial
   | i+2=>simp at h1)
  (.cons (.agg (.cons (by have:=bw.sl (ρ:=ia [(ba,0),(bd,0)]) (c:=12) (b:=ba) (k:=0) 0 2 2 rfl;rw [HJ] at this;exact this) (.cons (by have:=bw.sl (ρ:=ia [(ba,0),(bd,0)]) (c:=13) (b:=bd) (k:=0) 0 2 2 rfl;rw [HJ] at this;exact this) (.cons (.int _ _) (.cons (.int _ _) .nil))))) .nil)
 refine ⟨ck,q.mono fun ai h' v ⟨e1,e2,bA,S,aI,F⟩=>⟨e1,e2,?_⟩⟩;have nw:∀c,¬gH (gn [.dead,.dead]) c:=fun c ⟨w1,y,w2,_⟩=>by
  rw [Fj] at w1;rw [zm] at w2;split at w2
  ·cases w2
  ·have:=(List.getElem?_eq_some_iff.1 w2).1;simp at this w1;omega
 have lW:∀c x b k,Dj.get c=some x->14<=c->x.live=true->bA c=some (b,k)->h b=none:=fun c x b k h1 h2 h3 h4=>by
  rcases F.lW c x b k h1 (by rw [xa];exact h2) h3 h4 with q|⟨dK,k0,q,_⟩
  ·exact q
  ·exact absurd q (nw dK)
 obtain ⟨b,k,r1,arr,fr,b2,rest,r2,r3,gI,ih,ta,D1⟩:=S.blk 38 _ aaI;cases aI with
 | sl o n m e=>
  rw [r1] at e;cases e;refine ⟨b,jv k dj,arr,Ct bA,rfl,by rw [r2,r3 rfl],lW 38 _ b k aaI (by omega) rfl r1,fun j ae=> ?_,fun j ae=> ?_⟩
  ·obtain ⟨bQ,g1,g2⟩:=Mv ih (j:=j) (v:=rF j) (by
    match j,ae with
    | 0,_|1,_|2,_|3,_|4,_|5,_|6,_|7,_=>rfl
    | j+8,ae=>omega)
   rw [<- Array.getElem?_toList,gI,List.getElem?_append_left (List.getElem?_eq_some_iff.1 g1).1,g1,aoB g2]
  ·obtain ⟨bV,bX,t1,vy,YS,c2,apO,t2,t3,t4,t5,t6,t7⟩:=S.blk (15+3*j) _ (aaJ j ae);have Ju:Ct bA j=bV:=by unfold Ct;rw [t1]
   rw [Ju];refine ⟨?_,lW _ _ bV bX (aaJ j ae) (by omega) rfl t1⟩;have rU:=EC t5;rw [t6 rfl,List.append_nil,rU] at t4;unfold qh;rw [t2,t3 rfl,<- t4]
end
noncomputable def Hc:Code:=Tryz.f58.body.getD .skip
def OL:Code:=bC Hc
def OM:Code:=bC OL
def ON:Code:=bC OM
def OO:Code:=bC ON
def Hd:Code:=bC OO
def OP:Code:=bC Hd
def OQ:Code:=bC OP
def Yf:Code:=b1 OQ
def zJ:List Oper:=[⟨some 25,.load 131 (.tmp 10),131, "butt.go:335",#[],none⟩,⟨some 26,.load 4 (.tmp 11),4, "butt.go:335",#[⟨2,.gcOnly .lateStores⟩],none⟩,⟨none,.store 131 (.tmp 6) (.tmp 25),0, "butt.go:335",#[⟨0,.data⟩,⟨0,.phase⟩,⟨1,.textOnly .lateStores⟩],none⟩,⟨some 7,.assign (.tmp 26),4, "butt.go:335",#[⟨1,.data⟩,⟨2,.chain⟩,⟨0,.phase⟩,⟨1,.phase⟩,⟨2,.phase⟩],none⟩]
def alX:=aT Yf (.region _ (List.toArray zJ) _) rfl
def alY:=aT OQ (.seq Yf .ret) rfl
def alZ:=aT OP (.seq (.region _ [_].toArray _) OQ) rfl
def OR:Code:=b1 Hd
def N2:Code:=bC OR
def N3:Code:=b1 N2
def N4:Code:=b1 N3
def GC:Code:=bC N4
def B1:Code:=bC GC
def XF:Code:=bC B1
def ajk:=aT XF (.region _ [_,_].toArray _) rfl
def N5:Code:=b1 B1
def N6:Code:=b1 N5
def N7:Code:=bC N6
def XG:Code:=bC N7
def ajl:=aT XG (.region _ [_,_].toArray _) rfl
def ajm:=aT N7 (.seq (.region _ [_].toArray _) XG) rfl
def ajn:=aT N6 (.seq (.region _ [_,_,_,_].toArray _) N7) rfl
def ajo:=aT N5 (.block _ N6) rfl
def ajp:=aT B1 (.seq N5 XF) rfl
def XH:Code:=b1 GC
def Vb:=aT XH (.cond _ .skip (.exit 0)) rfl
def Vd:=aT GC (.seq XH B1) rfl
def Ve:=aT N4 (.seq (.region _ [_].toArray _) GC) rfl
def ajq:=aT N3 (.loop N4) rfl
def ajr:=aT N2 (.block _ N3) rfl
def al0:=aT OR (.seq (.region _ [_,_,_,_].toArray _) N2) rfl
def al1:=aT Hd (.seq OR OP) rfl
def al2:=aT OO (.seq (.region _ [_,_].toArray _) Hd) rfl
def al3:=aT ON (.seq (.region _ [_].toArray _) OO) rfl
def al4:=aT OM (.seq (.region _ [_].toArray _) ON) rfl
def al5:=aT OL (.seq (.region _ [_].toArray _) OM) rfl
def al6:=aT Hc (.seq (.region _ [_,_,_,_,_].toArray _) OL) rfl
theorem ajs:Tryz.f58.body=some Hc:=by kernel_rfl
theorem aoC:ga 27 Hc=true:=by kernel_rfl
section
variable{P:Program}{main:Bool}{ah:Type}{Sy:Sys ah}{b:bn}{d:List Deferred}{ops:Array Oper}{N:Env->List Deferred->ah->ab->Prop}
theorem adC(he:nu 0 ops.toList=true)(lR:P.follows .mixedOrders=true)(aG:∀(i:Nat) (o:Oper),ops[i]? =some o->o.guard=none)
  (hd:∀(i j:Nat) (o aO:Oper) (t:Nat),ops[i]? =some o->ops[j]? =some aO->o.dst=some t->aO.dst=some t->i=j)
  (dm:Nat) (F:Bool->Nat->Value->ab->Prop) (Fm:∀c i v h h',h.aD h'->F c i v h->F c i v h') (Z:Bool->ah->Prop) {e0:Env} {bm:ah} {h0:ab} (R:ab->ab->Prop) (nj:Bool->ab->Prop) (QV:∀c h h',h.aD h'->nj c h->nj c h') (uV:∀h h',nj false h->R h h'->nj true h') (rG:nj false h0) (yC:∀i v h h',R h h'->F false i v h->F true i v h') (z0:Z false bm)
  (step:∀(i:Nat) (o:Oper),ops[i]? =some o->∀e s h c,nj c h->(∀bt,(∀(j:Nat) (aO:Oper),ops[j]? =some aO->aO.dst≠some bt)->e bt=e0 bt)->
   Z c s->(i=dm->c=false)->(∀x∈o.after,Region.binds .any x=true->∀aO bt,ops[x.on]? =some aO->aO.dst=some bt->F c x.on (e bt) h)->
   b3 P main Sy b o e d s h fun e' gE ai h'=>gE=d/\∃v,e'=cv e o.dst v/\(if i=dm then Z true ai/\R h h'/\F true i v h' else ai=s/\h.aD h'/\F c i v h'))
  (fin:∀e s h,nj (decide (dm<ops.size)) h->(∀bt,(∀(j:Nat) (aO:Oper),ops[j]? =some aO->aO.dst≠some bt)->e bt=e0 bt)->(∀(i:Nat) (o:Oper) (t:Nat),ops[i]? =some o->o.dst=some t->F (decide (dm<ops.size)) i (e t) h)->Z (decide (dm<ops.size)) s->N e d s h) (t:Nat):
  gk P main Sy b ops (Region.schedule (P.follows .mixedOrders) ops t) e0 d bm h0 N:=by
 unfold Region.schedule;rw [lR,Bool.true_or,if_pos rfl];refine y1 he (fun D e s h=>nj (decide (dm<ops.size)&&D dm) h/\(∀bt,(∀(j:Nat) (aO:Oper),ops[j]? =some aO->aO.dst≠some bt)->e bt=e0 bt)/\(∀(i:Nat) (o:Oper) (t:Nat),ops[i]? =some o->o.dst=some t->D i=true->F (decide (dm<ops.size)&&D dm) i (e t) h)/\Z (decide (dm<ops.size)&&D dm) s)
  (fun D l5 e s h lZ ⟨an,az,aB,aX⟩=> ?_) (fun D e s h i o ⟨an,az,aB,aX⟩ hi iv aQ nY=> ?_) (fun D e s h ⟨an,az,aB,aX⟩ kn=> ?_) ⟨by simpa using rG,fun _ _=>rfl,fun i o t _ _ du=>(Bool.false_ne_true du).elim,by simpa using z0⟩ t
 ·have e:(decide (dm<ops.size)&&D dm)=(decide (dm<ops.size)&&l5 dm):=by
   by_cases af:dm<ops.size
   ·rw [lZ dm af]
   ·simp [af]
  rw [<- e];exact ⟨an,az,fun i o t hi aj iv=>aB i o t hi aj (by rw [lZ i (Array.getElem?_eq_some_iff.1 hi).1];exact iv),aX⟩
 ·have hw:Region.wanted o (kH ops e)=true:=by simp [Region.wanted,aG i o aQ]
  rw [if_pos hw];have cj:=step i o aQ e s h (decide (dm<ops.size)&&D dm) an az aX (fun af=>by
   subst af;rw [iv,Bool.and_false]) (fun x aa hb aO bt c9 gh=>aB x.on aO bt c9 gh (nY x aa hb))
  refine EG (fun e' gE ai h' ⟨r1,v,r2,ih⟩=> ?_) (tk cj);subst r2;refine ⟨r1,?_⟩;have un:∀bt,(∀(j:Nat) (aO:Oper),ops[j]? =some aO->aO.dst≠some bt)->cv e o.dst v bt=e0 bt:=fun bt ao=>by
   cases aj:o.dst with
   | none=>exact az bt ao
   | some t=>
    rw [cM,aZ,if_neg (fun e'=>ao i o aQ (by rw [aj,e']))];exact az bt ao
  have uq:∀(j:Nat) (aO:Oper) (bt:Nat),j≠i->ops[j]? =some aO->aO.dst=some bt->cv e o.dst v bt=e bt:=fun j aO bt ec ae gh=>by
   cases aj:o.dst with
   | none=>rfl
   | some t=>rw [cM,aZ,if_neg (fun e'=>ec (hd j i aO o t ae aQ (by rw [gh,e']) aj))]
  by_cases af:i=dm
  ·subst af;simp only [if_true] at ih;obtain ⟨hr,z2,z3⟩:=ih;have e1:(decide (i<ops.size)&&D i)=false:=by rw [iv,Bool.and_false]
   rw [e1] at aB an;simp only [if_true,hi,decide_true,Bool.and_true];refine ⟨uV _ _ an z2,un,fun j aO bt ae gh pJ=> ?_,hr⟩;by_cases ec:j=i
   ·subst ec;rw [aQ] at ae;cases ae;rw [gh,cM,aZ,if_pos rfl];exact z3
   ·simp only [if_neg ec] at pJ;rw [uq j aO bt ec ae gh];exact yC _ _ _ _ z2 (aB j aO bt ae gh pJ)
  ·simp only [if_neg af] at ih;obtain ⟨hr,z2,z3⟩:=ih;subst hr;simp only [if_neg (fun e=>af (Eq.symm e):¬dm=i)];refine ⟨QV _ _ _ z2 an,un,fun j aO bt ae gh pJ=> ?_,aX⟩;by_cases ec:j=i
   ·subst ec;rw [aQ] at ae;cases ae;rw [gh,cM,aZ,if_pos rfl];exact z3
   ·simp only [if_neg ec] at pJ;rw [uq j aO bt ec ae gh];exact Fm _ _ _ _ _ z2 (aB j aO bt ae gh pJ)
 ·have e1:(decide (dm<ops.size)&&D dm)=decide (dm<ops.size):=by
   by_cases af:dm<ops.size
   ·rw [kn dm af,Bool.and_true]
   ·simp [af]
  rw [e1] at an aB aX;exact fin e s h an az (fun i o t hi aj=>aB i o t hi aj (kn i (Array.getElem?_eq_some_iff.1 hi).1)) aX
end
section
variable{P:Program}{main:Bool}{ah:Type}{Sy:Sys ah}{b:bn}{d:List Deferred}{l:List Oper}{N:Env->List Deferred->ah->ab->Prop}
theorem J1(rB:od l=true)(he:nu 0 l=true)(lR:P.follows .mixedOrders=true)
  (dm:Nat) (F:Bool->Nat->Value->ab->Prop) (Fm:∀c i v h h',h.aD h'->F c i v h->F c i v h') (Z:Bool->ah->Prop) {e0:Env} {bm:ah} {h0:ab} (R:ab->ab->Prop) (nj:Bool->ab->Prop) (QV:∀c h h',h.aD h'->nj c h->nj c h') (uV:∀h h',nj false h->R h h'->nj true h') (rG:nj false h0) (yC:∀i v h h',R h h'->F false i v h->F true i v h') (z0:Z false bm)
  (step:∀(i:Nat) (o:Oper),l[i]? =some o->∀e s h c,nj c h->(∀bt,l.all (fun aO=>aO.dst != some bt)=true->e bt=e0 bt)->Z c s->(i=dm->c=false)->
   (∀(j bt:Nat),(o.after.toList.any fun x=>x.on==j&&Region.binds .any x)=true->(l[j]?).bind (·.dst)=some bt->F c j (e bt) h)->
   b3 P main Sy b o e d s h fun e' gE ai h'=>gE=d/\∃v,e'=cv e o.dst v/\(if i=dm then Z true ai/\R h h'/\F true i v h' else ai=s/\h.aD h'/\F c i v h'))
  (fin:∀e s h,nj (decide (dm<l.length)) h->(∀bt,l.all (fun aO=>aO.dst != some bt)=true->e bt=e0 bt)->(∀(i bt:Nat),(l[i]?).bind (·.dst)=some bt->F (decide (dm<l.length)) i (e bt) h)->Z (decide (dm<l.length)) s->N e d s h) (t:Nat):
  gk P main Sy b l.toArray (Region.schedule (P.follows .mixedOrders) l.toArray t) e0 d bm h0 N:=by
 have aH:l.toArray.size=l.length:=by simp
 have un:∀{bt},l.all (fun aO=>aO.dst != some bt)=true->∀(j:Nat) (aO:Oper),l.toArray[j]? =some aO->aO.dst≠some bt:=fun {bt} h j aO ae=>by
  have:=List.all_eq_true.1 h aO (List.mem_of_getElem? (by simpa using ae));simpa using this
 refine adC (ops:=l.toArray) he lR (fun i o hi=>zd rB (by simpa using hi)) (fun i j o aO t hi ae h1 h2=>ze rB (by simpa using hi) (by simpa using ae) (h1.trans h2.symm) (by rw [h1];simp)) dm F Fm Z R nj QV uV rG yC z0 ?_ ?_ t
 ·intro i o hi e s h c an az aB Qu aX;refine step i o (by simpa using hi) e s h c an (fun bt h'=>az bt (un h')) aB Qu fun j bt aa ae=> ?_;rw [List.any_eq_true] at aa;obtain ⟨x,hm,hb⟩:=aa;simp only [Bool.and_eq_true,beq_iff_eq] at hb;obtain ⟨rfl,hb⟩:=hb;obtain ⟨aO,c9,fo⟩:=Option.bind_eq_some_iff.1 ae;exact aX x (by simpa using hm) hb aO bt (by simpa using c9) fo
 ·intro e s h an az aB aX;rw [aH] at an aB aX;refine fin e s h an (fun bt h'=>az bt (un h')) (fun i bt hi=> ?_) aX;obtain ⟨aO,c9,fo⟩:=Option.bind_eq_some_iff.1 hi;exact aB i aO bt (by simpa using c9) fo
end
def Za(x:eI):eI:= {x with own:=false}
def uD(h:ab)(D:List Nat):ab:=fun b=>if b∈D then (h b).map Za else h b
def wm(h:ab)(D:List Nat):ab:=fun b=>if b∈D then (h b).map Za else none
theorem al7(h:ab)(D:List Nat):G0 h (uD h D) (wm h D):=by
 refine ⟨fun b x aa=> ?_,fun b x aa=> ?_,fun b x aa bg=> ?_,fun b x aa bg=> ?_⟩
 ·unfold uD at aa;split at aa
  ·obtain ⟨y,ax,rfl⟩:=Option.map_eq_some_iff.1 aa;exact ⟨y,ax,rfl,fun e=>by cases e⟩
  ·exact ⟨x,aa,rfl,fun e=>e⟩
 ·unfold wm at aa;split at aa
  ·obtain ⟨y,ax,rfl⟩:=Option.map_eq_some_iff.1 aa;exact ⟨y,ax,rfl,fun e=>by cases e⟩
  ·cases aa
 ·unfold uD at aa;split at aa
  ·obtain ⟨y,ax,rfl⟩:=Option.map_eq_some_iff.1 aa;cases bg
  ·rename_i du;unfold wm;rw [if_neg du]
 ·unfold wm at aa;split at aa
  ·obtain ⟨y,ax,rfl⟩:=Option.map_eq_some_iff.1 aa;cases bg
  ·cases aa
theorem al8{h:ab}{D:List Nat}{b:Nat}{x:eI}(aa:h b=some x):∃o,uD h D b=some ⟨x.obj,o⟩:=by
 unfold uD;split
 ·exact ⟨false,by rw [aa];rfl⟩
 ·exact ⟨x.own,aa⟩
theorem al9{h:ab}{D:List Nat}{b:Nat}(du:b∉D):uD h D b=h b:=by unfold uD;rw [if_neg du]
theorem XI{h:ab}{D:List Nat}{b:Nat}{x:eI}(du:b∈D)(aa:h b=some x):wm h D b=some ⟨x.obj,false⟩:=by unfold wm;rw [if_pos du,aa];rfl
def sR(h h':ab):Prop:=∀b x,h b=some x->∃o,h' b=some ⟨x.obj,o⟩
theorem sR.refl(h:ab):sR h h:=fun b x aa=>⟨x.own,aa⟩
theorem sR.trans{a b c:ab}(p:sR a b)(q:sR b c):sR a c:=fun x y aa=>by
 obtain ⟨o,h1⟩:=p x y aa;exact q x ⟨y.obj,o⟩ h1
theorem Pt{P:Program}{h:ab}{t:TypeId}{b0:Nat}{v k2:Value}{ty:TypeId}(hs:cy P t=some 1)(aI:v.cells=#[v])(aQ:jG v=true)(hb:h b0=some ⟨.cells #[k2] ty (0,0),true⟩)(K:ab->Prop):
  au P (Instr.storeAt t (.pointer (some ⟨b0,0,none⟩)) v) h (K:=⟨fun _=>K⟩)=K (h.put b0 ⟨.cells #[v] ty (0,0),true⟩):=by
 have e:=ps hb;have key:au P (Instr.storeAt t (.pointer (some ⟨b0,0,none⟩)) v) (h.put b0 ⟨.cells #[k2] ty (0,0),true⟩) (K:=⟨fun _=>K⟩)=K (h.put b0 ⟨.cells #[v] ty (0,0),true⟩):=by
  rw [y9 (K:=⟨_⟩) hs,aI,show ((#[v]:Array Value).size==1)=true from rfl,show (#[v]:Array Value).toList=[v] from rfl,zj,aQ];simp only [BE];exact propext ⟨fun q=>q.2,fun q=>⟨rfl,q⟩⟩
 rw [e] at key;exact key
theorem awT:zeroOf Tryz.prog 58=some (.slice none 0 0):=by kernel_rfl
theorem aaK:cy Tryz.prog 58=some 1:=by kernel_rfl
theorem z4:zeroOf Tryz.prog 4=some (.bool false):=by kernel_rfl
theorem aqK{h:ab}{a:Option Addr}{n c:Nat}[K:KK Value]:au Tryz.prog (Builtin.len_ #[211] 3 #[.slice a n c]) h=K.f (.int .i64 n) h:=u3 (by first|exact Tryz.underlying211|kernel_rfl)
theorem aqL{h:ab}{b off n c:Nat}{k:IntKind}{i:Int}[K:KK Value]:au Tryz.prog (Instr.indexAt 211 (.slice (some ⟨b,off,none⟩) n c) (.int k i)) h=((decide (0<=i)&&decide (i<n))=true/\K.f (.pointer (some ⟨b,off+i.toNat*1,none⟩)) h):=El (by first|exact Tryz.underlying211|kernel_rfl) aaK
structure acr(a8:ab)(c3 c4 c5 b fb bb ba bd:Nat)(bR:Int)(fB:FuncId)(fD arr:Array Value)(bF:Nat->Nat)(B:ab->Prop):Prop where
 c3:a8 c3=some ⟨.cells #[.slice (some ⟨ba,0,none⟩) 2 2,.slice (some ⟨bd,0,none⟩) 2 2,.int .i64 20,.int .i64 1] 119 (0,0),true⟩
 c4:a8 c4=some ⟨.cells #[.int .i64 bR] 3 (0,0),true⟩
 c5:a8 c5=some ⟨.cells #[.func (.func fB) #[] fD] 135 (0,0),true⟩
 yH:a8 b=some ⟨.cells arr 58 (0,0),true⟩
 azu:∀j,j<8->arr[j]? =some (.slice (some ⟨bF j,0,none⟩) 1 1)
 bF:∀j,j<8->qh a8 (bF j) (fM j) true
 awU:a8 fb=none
 awV:a8 bb=none
 ne:fb≠bb
 B:B a8
def x9(c3 c4 c5:Nat)(bF:Nat->Nat)(bl:List Nat):List Nat:=[c3,c4,c5]++(List.range 8).map bF++bl
def z6(N:Nat)(bR:Int)(nf:b6->b6->Int)(gf:b6->b6->Bool):Nat->List cT:=fun i=>jB bR nf gf (fM (i- N)) 8
structure Eb(a8:ab)(RY:List Nat)(N mu wg fb bb:Nat)(full:Nat->List cT)(j:Nat)(s:ay)(h:ab):Prop where
 fj:sR a8 h
 c7:∀b x,a8 b=some x->b∉RY->h b=some x
 RZ:(j=0/\OC s mu wg 8/\s.aR=N/\(∀b x,kv fb bb b=some x->h b=some x))\/(0<j/\iZ s mu wg 8 (.eR false) 0 (qI N fb bb) full N/\s.aR=N+j)
section
variable{os0:eB}{Post:Value->World->Prop}{s:ay}{h a8:ab}{N mu wg fb bb c3 c4 c5 b ba bd k0 j:Nat}{fB:FuncId}{fD arr:Array Value}{bF:Nat->Nat}{nf:b6->b6->Int}{gf:b6->b6->Bool}{B:ab->Prop}{bl:List Nat}{bR:Int}
theorem agA{fb bb c:Nat}{x:eI}(h:kv fb bb c=some x):c=fb\/c=bb:=by
 unfold kv at h;split at h
 ·exact .inl ‹_›
 ·split at h
  ·exact .inr ‹_›
  ·cases h
theorem Ws{fb bb c:Nat}(h1:c≠fb)(h2:c≠bb):kv fb bb c=none:=by unfold kv;rw [if_neg h1,if_neg h2]
theorem ajt{h1:ab}{RY:List Nat}{full:Nat->List cT}(J:Eb a8 RY N mu wg fb bb full j s h)(aaL:j<8)(bx:h.aD h1):
  bI Tryz.prog true (SM 203 210 os0 Post) 96 #[br wg,.int .i64 1] s h1 fun ai h2 v=>iZ ai mu wg 8 (.eR true) 0 (qI N fb bb) full N/\ai.aR=N+j/\h2=(if j=0 then h1.del (kv fb bb) else h1):=by
 rcases J.RZ with ⟨rfl,D,iz,aG⟩|⟨ae,pY,iz⟩
 ·refine Kp D.m.aR D.m.on fun _ hw=> ?_;have ya:(h1.del (kv fb bb)) wg=none:=by rw [D.m.wg] at hw;unfold ab.del;split;rfl;exact hw
  refine (Yb (s:=s) (h:=h1) (mu:=mu) (wg:=wg) (b0:=8) (N:=N) (I:=qI N fb bb) (full:=full) (h1:=h1.del (kv fb bb)) (fun K kk=> ?_) ya (by omega)).mono fun ai h' v q=>⟨q.1,by rw [q.2.1,iz];rfl,by rw [if_pos rfl];exact q.2.2⟩;exact aog D (fun b x aa=>bx _ _ (aG b x aa)) (aip _ _) (qI.start N fb bb) fun γ pY h1=>kk γ (by rw [iz] at pY;exact pY) h1
 ·refine Kp pY.m.aR pY.m.on fun _ hw=> ?_;rw [pY.m.wg] at hw;refine (Yb (s:=s) (h:=h1) (mu:=mu) (wg:=wg) (b0:=8) (N:=N) (I:=qI N fb bb) (full:=full) (h1:=h1) (fun K kk=> ?_) hw (by omega)).mono fun ai h' v q=>⟨q.1,by rw [q.2.1,iz],by rw [if_neg (by omega)];exact q.2.2⟩;exact Nv (.inl rfl) se pY.m (by simp) fun γ r aI M=>kk γ (pY.mk' r (by simpa [deafBehind] using M)) r.aR
theorem aee{e:Env}(C:acr a8 c3 c4 c5 b fb bb ba bd bR fB fD arr bF B)(O:∀i,we false (ep 203 210 os0 Post i) B fB fD nf gf)
  (sub:∀h h',B h->(∀b∈bl,∀x,h b=some x->∃o,h' b=some ⟨x.obj,o⟩)->B h') (wh:1<=bR)
  (J:Eb a8 (x9 c3 c4 c5 bF bl) N mu wg fb bb (z6 N bR nf gf) j s h) (ae:j<8)
  (e3:e 3=br c3) (e4:e 4=br c4) (e5:e 5=br c5) (cH:e 8=br mu) (de:e 9=br wg) (hA:e 10=br bb) (nI:e 11=br fb) (awW:e 15=.slice (some ⟨b,0,none⟩) 8 k0) (my:e 17=.int .i64 j) {acs:eZ->Env->List Deferred->ay->ab->Prop}
  (kk:∀e' ai h',Eb a8 (x9 c3 c4 c5 bF bl) N mu wg fb bb (z6 N bR nf gf) (j+1) ai h'->(∀t,t<13\/t=15\/t=16->e' t=e t)->e' 17=.int .i64 (j+1:Nat)->acs .cB e' [] ai h'):
  cF Tryz.prog true (SM 203 210 os0 Post) 27 (fE 58) B1 acs e [] s h:=by
 obtain ⟨aci,QW⟩:=J.fj _ _ C.yH;have awX:∀(bb:bn) (K:ay->ab->Value->Prop),@fa Tryz.prog true _ (SM 203 210 os0 Post) bb 58 (.pointer (some ⟨b,0+(j:Int).toNat*1,none⟩)) s h ⟨K⟩=K s h (.slice (some ⟨bF j,0,none⟩) 1 1):=fun bb K=>jN (K:=⟨K⟩) Cr (A:=⟨b,0+(j:Int).toNat*1,none⟩) QW rfl (by have:=C.azu j ae;simpa using this);have Dk:(decide ((0:Int)<=(j:Int))&&decide ((j:Int)<8))=true:=by simp;omega
 simp only [bc,undef,seval,ajp,ajo,ajn,awW,my,aqL,awX,Dk,true_and];rw [wV (K:=⟨_⟩) awT];intro c hc;rw [show (Value.slice none 0 0).cells=#[.slice none 0 0] from rfl];have cj:∀K:ab->Prop,au Tryz.prog (Instr.storeAt 58 (.pointer (some ⟨c,0,none⟩)) (.slice (some ⟨bF j,0,none⟩) 1 1)) (h.put c ⟨.cells #[.slice none 0 0] 58,true⟩) (K:=⟨fun _=>K⟩)=K ((h.put c ⟨.cells #[.slice none 0 0] 58,true⟩).put c ⟨.cells #[.slice (some ⟨bF j,0,none⟩) 1 1] 58 (0,0),true⟩):=fun K=>Pt aaK rfl rfl dd K;simp only [bc,undef,seval,cj,qc];generalize Dl:h.put c ⟨.cells #[.slice (some ⟨bF j,0,none⟩) 1 1] 58 (0,0),true⟩=h1;have bx:h.aD h1:=by rw [<- Dl];exact hf hc
 have aaM:h1 c=some ⟨.cells #[.slice (some ⟨bF j,0,none⟩) 1 1] 58 (0,0),true⟩:=by rw [<- Dl,dd]
 simp only [bc,undef,seval,ajm,de];refine .inl ⟨call96,(ajt J ae bx).mono fun s2 h2 v2 q=> ?_⟩;obtain ⟨ht,lV,aaN⟩:=q;have cN:h2 c=some ⟨.cells #[.slice (some ⟨bF j,0,none⟩) 1 1] 58 (0,0),true⟩:=by
  rw [aaN];split
  ·rename_i AD;rcases J.RZ with ⟨_,_,_,aG⟩|⟨h0,_⟩
   ·unfold ab.del;cases aE:kv fb bb c with
    | none=>exact aaM
    | some y=>rw [aG c y aE] at hc;cases hc
   ·omega
  ·exact aaM
 have sS:∀x y,a8 x=some y->h2 x=h x:=fun x y aa=>by
  obtain ⟨o,ax⟩:=J.fj x y aa;have e1:h1 x=h x:=(bx _ _ ax).trans ax.symm;rw [aaN];split
  ·have db:x≠fb:=fun e=>by subst e;rw [C.awU] at aa;cases aa
   have dB:x≠bb:=fun e=>by subst e;rw [C.awV] at aa;cases aa
   unfold ab.del;rw [Ws db dB];exact e1
  ·exact e1
 have aaO:sR a8 h2:=fun x y aa=>by rw [sS x y aa];exact J.fj x y aa
 simp only [bc,undef,seval,ajl,e3,e4,e5,cH,de,hA,nI];generalize du:[c3,c4,c5,c,bF j]++bl=D;have Dm:∀x,x∈[c3,c4,c5,c,bF j]->x∈D:=fun x aa=>by rw [<- du];exact List.mem_append.2 (.inl aa)
 have inl:∀x,x∈bl->x∈D:=fun x aa=>by rw [<- du];exact List.mem_append.2 (.inr aa)
 refine as8 (cap:=rb wg c3 c c4 c5 mu fb bb) (h0:=uD h2 D) (hc:=wm h2 D) ht (by omega) (by omega) (al7 h2 D) (fun γ cur i1 i2 i3 i4 i5 i6=> ?_) fun γ j8 aae=> ?_
 ·have ch:∀x∈D,∀y,a8 x=some y->wm h2 D x=some ⟨y.obj,false⟩:=fun x aa y ax=>by
   obtain ⟨o,q⟩:=aaO x y ax;exact XI (x:=⟨y.obj,o⟩) aa q
  refine aed (No ae) (O s2.aR) (sub _ _ C.B fun x aa y ax=>⟨_,ch x (inl x aa) y ax⟩) i3 i4 (by rw [i1,i5]) C.ne ?_ (by rw [i2,lV];show jB bR nf gf (fM (N+j- N)) 8=_;rw [Nat.add_sub_cancel_left]) ⟨⟨_,_,_,_,_,_,_,ch c3 (Dm _ (by simp)) _ C.c3⟩,⟨_,_,_,XI (Dm _ (by simp)) cN,ch (bF j) (Dm _ (by simp)) _ (C.bF j ae)⟩,⟨_,ch c4 (Dm _ (by simp)) _ C.c4⟩,⟨_,ch c5 (Dm _ (by simp)) _ C.c5⟩⟩ cur cur.dj;have:gO 0 [fM j]<=1:=by
   match j,ae with
   | 0,_|1,_|2,_|3,_|4,_|5,_|6,_|7,_=>decide
   | j+8,ae=>omega
  omega
 ·simp only [bc,undef,seval,ajk,my,tt];have hw:IntKind.i64.wrap ((j:Int)+1)=((j+1:Nat):Int):=by
   match j,ae with
   | 0,_|1,_|2,_|3,_|4,_|5,_|6,_|7,_=>rfl
   | j+8,ae=>omega
  refine kk _ γ (uD h2 D) ⟨fun x y aa=> ?_,fun x y aa aaP=> ?_,.inr ⟨by omega,j8,by omega⟩⟩ (fun t aj=> ?_) (by simp [aZ,hw])
  ·obtain ⟨o,q⟩:=aaO x y aa;exact al8 (x:=⟨y.obj,o⟩) q
  ·have Jv:x∉D:=fun hm=>by
    rw [<- du] at hm;apply aaP;unfold x9;rcases List.mem_append.1 hm with q|q
    ·simp only [List.mem_cons,List.not_mem_nil,or_false] at q;rcases q with rfl|rfl|rfl|rfl|rfl
     ·simp
     ·simp
     ·simp
     ·obtain ⟨o,q⟩:=J.fj x y aa;rw [hc] at q;cases q
     ·exact List.mem_append.2 (.inl (List.mem_append.2 (.inr (List.mem_map.2 ⟨j,by simpa using ae,rfl⟩))))
    ·exact List.mem_append.2 (.inr q)
   rw [al9 Jv,sS x y aa];exact J.c7 x y aa aaP
  ·simp only [aZ];rw [if_neg (by omega),if_neg (by omega),if_neg (by omega),if_neg (by omega),if_neg (by omega),if_neg (by omega),if_neg (by omega)]
end
section
variable{main:Bool}{ah:Type}{Sy:Sys ah}{s:ah}{h:ab}{b:bn}
theorem agB{e:Env}{d:List Deferred}{N:Env->List Deferred->ah->ab->Prop}{bb fb c6 p k:Nat}{n:Int}{k2 oA:Value}{o1 o2:Bool}(e6:e 6=br c6)(hA:e 10=br bb)(nI:e 11=br fb)(db:bb≠c6)(dB:fb≠c6)
  (h6:h c6=some ⟨.cells #[k2,oA] 131 (0,0),true⟩) (hb:h bb=some ⟨.cells #[.slice (some ⟨p,0,none⟩) 2 k,.int .i64 n] 131 (0,0),o1⟩) (aP:h fb=some ⟨.cells #[.bool true] 4 (0,0),o2⟩)
  (kk:∀e' h',(∀b x,b≠c6->h b=some x->h' b=some x)->h' c6=some ⟨.cells #[.slice (some ⟨p,0,none⟩) 2 k,.int .i64 n] 131 (0,0),true⟩->e' 6=br c6->e' 7=.bool true->N e' d s h') (t:Nat):
  gk Tryz.prog main Sy b zJ.toArray (Region.schedule (Tryz.prog.follows .mixedOrders) zJ.toArray t) e d s h N:=by
 refine J1 (l:=zJ) rfl rfl hR 2 (fun c i v h=>match i with
   | 0=>v=.agg #[.slice (some ⟨p,0,none⟩) 2 k,.int .i64 n]
   | 1=>v=.bool true
   | 3=>v=.bool true
   | _=>True) (fun c i v h h' _ q=>by match i with|0=>exact q|1=>exact q|2=>trivial|3=>exact q|i+4=>trivial)
  (fun _ ai=>ai=s) (fun h h'=>h'=h.put c6 ⟨.cells #[.slice (some ⟨p,0,none⟩) 2 k,.int .i64 n] 131 (0,0),true⟩)
  (fun c h'=>(∀b x,b≠c6->h b=some x->h' b=some x)/\h' c6=some ⟨.cells (if c then #[.slice (some ⟨p,0,none⟩) 2 k,.int .i64 n] else #[k2,oA]) 131 (0,0),true⟩)
  (fun c h1 h2 le ⟨an,az⟩=>⟨fun b x hb aa=>le _ _ (an b x hb aa),le _ _ az⟩)
  (fun h1 h2 ⟨an,az⟩ e=>by subst e;exact ⟨fun b x hb aa=>by rw [cG hb];exact an b x hb aa,by rw [dd];rfl⟩)
  ⟨fun b x hb aa=>aa,by simpa using h6⟩
  (fun i v h h' _ q=>by match i with|0=>exact q|1=>exact q|2=>trivial|3=>exact q|i+4=>trivial) rfl ?_ ?_ t
 ·intro i o hi e' ai h1 c aK un dX af pre;have dX:ai=s:=dX;subst dX;obtain ⟨fV,p2⟩:=aK;have Jw:e' 6=br c6:=by rw [un 6 rfl,e6]
  have IL:e' 10=br bb:=by rw [un 10 rfl,hA]
  have QX:e' 11=br fb:=by rw [un 11 rfl,nI]
  match i,hi with
  | 0,hi=>
   cases hi;simp only [b3,gF,bc,undef,seval,IL,br];rw [HG (K:=⟨_⟩) Cf (fV _ _ db hb)];exact ⟨rfl,_,rfl,rfl,fun _ _ e=>e,rfl⟩
  | 1,hi=>
   cases hi;simp only [b3,gF,bc,undef,seval,QX,br];rw [jN (K:=⟨_⟩) QL (A:=⟨fb,0,none⟩) (fV _ _ dB aP) rfl rfl];exact ⟨rfl,_,rfl,rfl,fun _ _ e=>e,rfl⟩
  | 2,hi=>
   cases hi;have hc:=af rfl;subst hc;have h25:e' 25=.agg #[.slice (some ⟨p,0,none⟩) 2 k,.int .i64 n]:=pre 0 25 rfl rfl;simp only [b3,gF,bc,undef,seval,Jw,h25,br];rw [QK Pq p2];exact ⟨rfl,_,rfl,rfl,rfl,trivial⟩
  | 3,hi=>
   cases hi;have h26:e' 26=.bool true:=pre 1 26 rfl rfl;simp only [b3,gF,bc,undef,seval,h26];exact ⟨trivial,_,rfl,trivial,fun _ _ e=>e,rfl⟩
  | i+4,hi=>simp [zJ] at hi
 ·intro e' ai h1 aK un tc z;subst z;exact kk e' h1 aK.1 (by simpa [zJ] using aK.2) (by rw [un 6 rfl,e6]) (tc 3 7 rfl)
end
theorem atm:gq Tryz.prog 26=some none:=by kernel_rfl
theorem QY:cy Tryz.prog 51=some 4:=by kernel_rfl
theorem fQ:cy Tryz.prog 3=some 1:=by kernel_rfl
theorem z3:zeroOf Tryz.prog 3=some (.int .i64 0):=by kernel_rfl
section
variable{h:ab}{m o:Nat}[K:KK Value]
theorem ama:au Tryz.prog (Instr.fieldAt 137 (.pointer (some ⟨m,0,none⟩)) 0) h=K.f (.pointer (some ⟨m,0,none⟩)) h:=
 nq (ft:=29) (m:=1) (i:=0) Tryz.underlying137 rfl rfl (by kernel_rfl)
theorem aoD:au Tryz.prog (Instr.fieldAt 29 (.pointer (some ⟨m,0,none⟩)) 0) h=K.f (.pointer (some ⟨m,0,none⟩)) h:=
 nq (ft:=26) (m:=0) (i:=0) Tryz.underlying29 rfl rfl (by kernel_rfl)
theorem aoE:au Tryz.prog (Instr.fieldAt 51 (.pointer (some ⟨m,o,none⟩)) 3) h=K.f (.pointer (some ⟨m,o+3,none⟩)) h:=by
 rw [nq (ft:=3) (m:=0) (i:=3) Tryz.underlying51 rfl rfl (by kernel_rfl),k5];rfl
theorem atn{b off n c:Nat}{k:IntKind}{i:Int}:au Tryz.prog (Instr.indexAt 26 (.slice (some ⟨b,off,none⟩) n c) (.int k i)) h=((decide (0<=i)&&decide (i<n))=true/\K.f (.pointer (some ⟨b,off+i.toNat*4,none⟩)) h):=El Tryz.underlying26 QY
theorem ato{a:Option Addr}{n c:Nat}:au Tryz.prog (Builtin.len_ #[44] 3 #[.slice a n c]) h=K.f (.int .i64 n) h:=u3 Tryz.underlying44
end
section
variable{main:Bool}{ah:Type}{Sy:Sys ah}{s:ah}{h:ab}{b:bn}
theorem aef{e:Env}{d:List Deferred}{N:Env->List Deferred->ah->ab->Prop}{c10 gb stb ns eT:Nat}{arr:Array Value}{x:Value}{a k q:Int}{o1 o2:Bool}(e2:e 2=br gb)(hA:e 10=br c10)(nI:e 11=.int .i64 k)(h10:h c10=some ⟨.cells #[.int .i64 a] 3 (0,0),true⟩)
  (aG:h gb=some ⟨.cells #[.slice (some ⟨stb,0,none⟩) ns eT,x] 137 (0,0),o1⟩) (cj:h stb=some ⟨.cells arr 51 (0,0),o2⟩) (awY:0<=k) (IA:k<ns) (aE:arr[k.toNat*4+3]? =some (.int .i64 q)) (hw:IntKind.i64.wrap (a+q)=a+q)
  (bj:gb≠c10) (QZ:stb≠c10)
  (kk:∀e' h',x8 c10 h h'->h' c10=some ⟨.cells #[.int .i64 (a+q)] 3 (0,0),true⟩->N e' d s h') (t:Nat):
  gk Tryz.prog main Sy b zt.toArray (Region.schedule (Tryz.prog.follows .mixedOrders) zt.toArray t) e d s h N:=by
 refine J1 (l:=zt) rfl rfl hR 9 (fun c i v h=>match i with
   | 0=>∃z,v=.int .i64 z/\(c=false->z=a)
   | 1=>v=br gb
   | 2=>v=br gb
   | 3=>v=.slice (some ⟨stb,0,none⟩) ns eT
   | 4=>v=.int .i64 k
   | 5=>v=.pointer (some ⟨stb,0+k.toNat*4,none⟩)
   | 6=>v=.pointer (some ⟨stb,0+k.toNat*4+3,none⟩)
   | 7=>v=.int .i64 q
   | 8=>∃z,v=.int .i64 z/\(c=false->z=a+q)
   | _=>True) (fun c i v h h' _ q=>by match i with|0=>exact q|1=>exact q|2=>exact q|3=>exact q|4=>exact q|5=>exact q|6=>exact q|7=>exact q|8=>exact q|i+9=>trivial)
  (fun _ ai=>ai=s) (fun h h'=>h'=h.put c10 ⟨.cells #[.int .i64 (a+q)] 3 (0,0),true⟩)
  (fun c h'=>x8 c10 h h'/\h' c10=some ⟨.cells #[.int .i64 (if c then a+q else a)] 3 (0,0),true⟩)
  (fun c h1 h2 le ⟨an,az⟩=>⟨fun b x hb aa=>le _ _ (an b x hb aa),le _ _ az⟩)
  (fun h1 h2 ⟨an,az⟩ e=>by subst e;exact ⟨fun b x hb aa=>by rw [cG hb];exact an b x hb aa,by rw [dd];rfl⟩)
  ⟨fun b x hb aa=>aa,by simpa using h10⟩
  (fun i v h h' _ q=>by match i with|0=>exact (by obtain ⟨z,q,_⟩:=q;exact ⟨z,q,fun e=>by cases e⟩)|1=>exact q|2=>exact q|3=>exact q|4=>exact q|5=>exact q|6=>exact q|7=>exact q|8=>exact (by obtain ⟨z,q,_⟩:=q;exact ⟨z,q,fun e=>by cases e⟩)|i+9=>trivial) rfl ?_ ?_ t
 ·intro i o hi e' ai h1 c aK un dX af pre;have dX:ai=s:=dX;subst dX;obtain ⟨fV,p2⟩:=aK;have fi:e' 2=br gb:=by rw [un 2 rfl,e2]
  have IL:e' 10=br c10:=by rw [un 10 rfl,hA]
  have QX:e' 11=.int .i64 k:=by rw [un 11 rfl,nI]
  match i,hi with
  | 0,hi=>
   cases hi;simp only [b3,gF,bc,undef,seval,IL,br];rw [jN (K:=⟨_⟩) xZ (A:=⟨c10,0,none⟩) p2 rfl rfl];exact ⟨rfl,_,rfl,rfl,fun _ _ e=>e,_,rfl,fun e=>by rw [e];rfl⟩
  | 1,hi=>
   cases hi;simp only [b3,gF,bc,undef,seval,fi,br,ama];exact ⟨trivial,_,rfl,trivial,fun _ _ e=>e,rfl⟩
  | 2,hi=>
   cases hi;have g:e' 35=br gb:=pre 1 35 rfl rfl;simp only [b3,gF,bc,undef,seval,g,br,aoD];exact ⟨trivial,_,rfl,trivial,fun _ _ e=>e,rfl⟩
  | 3,hi=>
   cases hi;have g:e' 36=br gb:=pre 2 36 rfl rfl;simp only [b3,gF,bc,undef,seval,g,br];rw [jN (K:=⟨_⟩) atm (A:=⟨gb,0,none⟩) (fV _ _ bj aG) rfl rfl];exact ⟨rfl,_,rfl,rfl,fun _ _ e=>e,rfl⟩
  | 4,hi=>
   cases hi;simp only [b3,gF,bc,undef,seval,QX];exact ⟨trivial,_,rfl,trivial,fun _ _ e=>e,rfl⟩
  | 5,hi=>
   cases hi;have g:e' 37=.slice (some ⟨stb,0,none⟩) ns eT:=pre 3 37 rfl rfl;have g2:e' 38=.int .i64 k:=pre 4 38 rfl rfl;have hb:(decide (0<=k)&&decide (k<ns))=true:=by simp [awY,IA]
   simp only [b3,gF,bc,undef,seval,g,g2,atn,hb];exact ⟨trivial,trivial,_,rfl,trivial,fun _ _ e=>e,rfl⟩
  | 6,hi=>
   cases hi;have g:e' 39=.pointer (some ⟨stb,0+k.toNat*4,none⟩):=pre 5 39 rfl rfl;simp only [b3,gF,bc,undef,seval,g,aoE];exact ⟨trivial,_,rfl,trivial,fun _ _ e=>e,rfl⟩
  | 7,hi=>
   cases hi;have g:e' 40=.pointer (some ⟨stb,0+k.toNat*4+3,none⟩):=pre 6 40 rfl rfl;simp only [b3,gF,bc,undef,seval,g];rw [jN (K:=⟨_⟩) xZ (A:=⟨stb,0+k.toNat*4+3,none⟩) (fV _ _ QZ cj) rfl (by simpa using aE)];exact ⟨rfl,_,rfl,rfl,fun _ _ e=>e,rfl⟩
  | 8,hi=>
   cases hi;obtain ⟨z,g,R0⟩:=(show ∃z,e' 34=.int .i64 z/\(c=false->z=a) from pre 0 34 rfl rfl);have g2:e' 41=.int .i64 q:=pre 7 41 rfl rfl;simp only [b3,gF,bc,undef,seval,g,g2,tt];exact ⟨trivial,_,rfl,trivial,fun _ _ e=>e,_,rfl,fun e=>by rw [R0 e,hw]⟩
  | 9,hi=>
   cases hi;have hc:=af rfl;subst hc;obtain ⟨z,g,R0⟩:=(show ∃z,e' 42=.int .i64 z/\(false=false->z=a+q) from pre 8 42 rfl rfl);rw [R0 rfl] at g;simp only [b3,gF,bc,undef,seval,IL,g,br];rw [Pt fQ rfl rfl p2];exact ⟨rfl,_,rfl,rfl,rfl,trivial⟩
  | i+10,hi=>simp [zt] at hi
 ·intro e' ai h1 aK un tc z;subst z;exact kk e' h1 aK.1 (by simpa [zt] using aK.2)
end
end
end Go.Nk
