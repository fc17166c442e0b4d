/- Part Paq of the proof of ButtBack: lemmas. -/
import Derived.Test.YthgephlghkjiaaaGreatDoorPap
set_option maxRecDepth 100000
set_option maxHeartbeats 4000000
set_option linter.all false
namespace Go.Nk
noncomputable section
open Go Go.Conc Go.Proofs
section
open Go.ConcM (OsLater muBlock)
open Go.ConcR (wgBlock WgAt stA smA)
theorem agu{P:Program}{α:Type}:∀{m:Sem α} {a:α},prun P m=some a->∀(h:ab) (Q:α->ab->Prop),bf P m h Q=Q a h:=by
 intro m
 induction m with
 | pure a=>intro b e h Q;cases e;rfl
 | program k aN=>intro b e h Q;exact aN P e h Q
 | _=>intro b e;cases e
theorem Wo{n:Nat}(h:n<18446744073709551616):IntKind.u64.wrap (n:Int)=n:=by
 simp only [IntKind.wrap,IntKind.bits,IntKind.signed,Bool.false_and];simp;omega
theorem Wp{n:Nat}(h:n<18446744073709551616):(BitVec.ofInt 64 (n:Int)).toNat=n:=by
 rw [BitVec.toNat_ofInt];simp;omega
theorem ai3{v c:Nat}(hc:c<2):(4294967296*v+c) &&& 2147483648=0:=by
 apply Nat.eq_of_testBit_eq;intro j;rw [Nat.testBit_and,show (2147483648:Nat)=2^31 from rfl,Nat.testBit_two_pow];by_cases ae:j=31
 ·subst ae;have:=Nat.testBit_two_pow_mul_add (i:=32) v (b:=c) (by omega) 31;simp only [Nat.reducePow] at this;rw [this];rcases (show c=0\/c=1 by omega) with rfl|rfl<;>simp<;>decide
 ·simp [Ne.symm ae]
theorem ai4{v c:Nat}(hc:c<2):(4294967296*v+c) &&& 2147483647=c:=by
 have:=Nat.and_two_pow_sub_one_eq_mod (4294967296*v+c) 31;simp only [Nat.reducePow,Nat.reduceSub] at this;rw [this];omega
section
variable{P:Program}{h:ab}{xt:TypeId}{x y:Operand}[K:KK Value]
theorem Bv{m:Sem Value}{v:Value}(e:prun P m=some v):au P m h=K.f v h:=agu e h K.f
theorem T3{n q:Nat}(ao:n<18446744073709551616)(aE:q<18446744073709551616):au P (cr .and xt x y (.int .u64 (n:Nat)) (.int .u64 (q:Nat))) h=K.f (.int .u64 (n &&& q:Nat)) h:=by
 have e:Op.intBits .and .u64 ((n:Nat):Int) ((q:Nat):Int)=pure (.int .u64 ((n &&& q:Nat):Int)):=by
  have hb:n &&& q<18446744073709551616:=Nat.lt_of_le_of_lt Nat.and_le_left ao;show (pure (Value.int .u64 (IntKind.u64.wrap ((BitVec.ofInt 64 (n:Int)) &&& (BitVec.ofInt 64 (q:Int))).toNat)):Sem Value)=_;rw [BitVec.toNat_and,Wp ao,Wp aE,Wo hb]
 simp [au,cr,eqGuard,binOp,aV,bh,e]
theorem NU{v:Nat}(aI:v<4000000):au P (cr .and xt x y (.int .u64 (4294967296*v:Nat)) (.int .u64 2147483648)) h=K.f (.int .u64 0) h:=by
 have:=T3 (P:=P) (h:=h) (xt:=xt) (x:=x) (y:=y) (K:=K) (n:=4294967296*v) (q:=2147483648) (by omega) (by omega);rw [show 4294967296*v &&& 2147483648=0 from ai3 (c:=0) (by omega)] at this;exact this
theorem Xy{v:Nat}(aI:v<4000000):au P (cr .and xt x y (.int .u64 (4294967296*v:Nat)) (.int .u64 2147483647)) h=K.f (.int .u64 0) h:=by
 have:=T3 (P:=P) (h:=h) (xt:=xt) (x:=x) (y:=y) (K:=K) (n:=4294967296*v) (q:=2147483647) (by omega) (by omega);rw [show 4294967296*v &&& 2147483647=0 from ai4 (c:=0) (by omega)] at this;exact this
theorem Ya{v:Nat}(aI:v<4000000):au P (cr .shr xt x y (.int .u64 (4294967296*v:Nat)) (.int .u64 32)) h=K.f (.int .u64 (v:Nat)) h:=by
 have e:Op.shift .shr .u64 ((4294967296*v:Nat):Int) .u64 32=pure (.int .u64 (v:Nat)):=by
  simp only [Op.shift];rw [if_neg (by omega)];simp only [show min (32:Int).toNat IntKind.u64.bits=32 from rfl];rw [show (2:Int)^32=4294967296 from rfl,Int.fdiv_eq_ediv_of_nonneg _ (by omega)];congr 2;omega
 revert e;generalize (((4294967296*v:Nat)):Int)=z;intro e;simp [au,cr,eqGuard,binOp,aV,bh,e]
end
section
variable{h:ab}[K:KK Value]{xt:TypeId}{x y:Operand}
omit K in
theorem as9:Tryz.prog.underlying 206=some (.int .u64):=by kernel_rfl
theorem U5{v:Nat}(aI:v<4000000):au Tryz.prog (convert 206 21 (.int .u64 (v:Nat))) h=K.f (.int .i32 (v:Nat)) h:=by
 simp only [au,convert,aV,df,as9,aac,Conv.intToInt,bh];rw [wrap32 (by omega)]
theorem Y4:au Tryz.prog (convert 206 199 (.int .u64 0)) h=K.f (.int .u32 0) h:=Bv (by kernel_rfl)
theorem ata:au Tryz.prog (convert 3 21 (.int .i64 1)) h=K.f (.int .i32 1) h:=Bv (by kernel_rfl)
theorem atb:au Tryz.prog (convert 3 206 (.int .i64 1)) h=K.f (.int .u64 1) h:=Bv (by kernel_rfl)
theorem aqy:au Tryz.prog (cr .shl xt x y (.int .u64 1) (.int .u64 32)) h=K.f (.int .u64 4294967296) h:=Bv (by kernel_rfl)
theorem FO{m:Nat}:au Tryz.prog (Instr.fieldAt 210 (.pointer (some ⟨m,0,none⟩)) 1) h=K.f (.pointer (some ⟨m,0,none⟩)) h:=
 nq (ft:=208) (m:=0) (i:=1) Tryz.underlying210 rfl rfl (by kernel_rfl)
theorem Mt{m:Nat}:au Tryz.prog (Instr.fieldAt 210 (.pointer (some ⟨m,0,none⟩)) 2) h=K.f (.pointer (some ⟨m,1,none⟩)) h:=
 nq (ft:=199) (m:=0) (i:=2) Tryz.underlying210 rfl rfl (by kernel_rfl)
theorem Mu{m:Nat}:au Tryz.prog (Instr.fieldAt 208 (.pointer (some ⟨m,0,none⟩)) 2) h=K.f (.pointer (some ⟨m,0,none⟩)) h:=
 nq (ft:=206) (m:=0) (i:=2) Tryz.underlying208 rfl rfl (by kernel_rfl)
end
section
variable{tM tW:TypeId}{os0:eB}{Post:Value->World->Prop}{s γ:ay}{h:ab}{K:ay->ab->Value->Prop}{wg mu b0 N:Nat}{b:bn}{I:(Nat->List cT)->ab->Prop}{full:Nat->List cT}{ms:jF}{k:Nat}
theorem Gy{st jD ty:TypeId}{o:Nat}(M:gJ s wg mu ms k)(x2:o=0\/o=1)(hs:Tryz.prog.underlying st=some (.pointer ty))(hd:Tryz.prog.underlying jD=some .unsafePointer)(eJ:(Tryz.prog.info? ty).map (fun i=>decide (i.size=0))=some false)(hh:h wg=none)
  (kk:∀γ,gK s γ->gJ γ wg mu ms k->γ.wv<=s.wv->K γ h (.pointer (some ⟨wg,o,none⟩))):
  iJ Tryz.prog true (SM tM tW os0 Post) b st jD (.pointer (some ⟨wg,o,none⟩)) s h (K:=⟨K⟩):=by
 show if (h wg).isSome=true then _ else _
 rw [hh,if_neg (by simp)];intro Jr aS y aF iO;refine zs fun a ops j rest k cs hk aA aQ hw γ n dX w t al cQ gx=>.inr ?_;subst aA;have R:=so al M.aR;have M2:=M.rel R;have hW:=cQ.jd M2.on;rw [M2.wg] at hW;obtain ⟨v,hc⟩:∃v,w.cell? ⟨wg,o,none⟩=some v:=by
  rcases x2 with rfl|rfl
  ·exact ⟨_,(show WgAt tW wg w _ _ from hW).cellSt⟩
  ·exact ⟨_,(show WgAt tW wg w _ _ from hW).cellSm⟩
 have l2:(execOp a.eval Jr).runT Tryz.prog w #[]=(.ok (.value (.pointer (some ⟨wg,o,none⟩))) w,#[]):=by
  rw [u6];have e1:execOp a.eval Jr=(do pure (.value (<- convert st jD (.pointer (some ⟨wg,o,none⟩)))):Sem Next):=by
   unfold execOp;rw [aF,<- iO]
  rw [e1];refine Prod.ext ?_ ?_
  ·simp [run_convert_to_unsafe hs hd eJ hc,Result.andThen]
  ·simp [run_convert_to_unsafe hs hd eJ hc,events_convert_to_unsafe hs hd eJ hc,Result.evThen]
 have cj:=tq (P:=Tryz.prog) (main:=true) (rest:=rest) (k:=k) (cs:=cs) aQ hw (by unfold lE;rw [aF]) hk l2 rfl;rw [seen_none] at cj;refine ⟨γ,_,w,#[],h,cj,?_,fun j _=>⟨.refl j γ,Iff.rfl⟩,fun j a b=>absurd a b,kk γ (gK.rel R) M2 (R.z rfl).2.2.2.1⟩;rw [zG,<- gx,p9];exact cQ
theorem agv{main:Bool}{fnn:FuncId}{tmps:Array Value}{todo:List Item}{ds:List Deferred}{kind:CallKind}{ro:Option Nat}{cs:List Frame}{w:World}:
  stepG Tryz.prog main (Conc.G ⟨fnn,tmps,todo,{target:=.fn (.func 129) #[],args:=#[]}::ds,.returning,kind,ro⟩ cs) w=.go (Conc.G ⟨fnn,tmps,todo,ds,.returning,kind,ro⟩ cs) w #[⟨.mark .enable,false,true⟩]:=by
 have al:(callFunc 129 #[]).run Tryz.prog w=.ok (.value (.tuple #[])) w:=by rw [run_callFunc_extern k6.f k6.name k6.body k6.next k6.find];simp [Extern.Race.none_,Result.andThen]
 have af:seen Tryz.prog fnn ((callFunc 129 #[]).events Tryz.prog w #[])=#[⟨.mark .enable,false,true⟩]:=by
  rw [events_callFunc_extern k6.f k6.name k6.body k6.next k6.find];have:=seen_entry (P:=Tryz.prog) (f:=129) fnn (#[⟨.mark .enable,false,true⟩]) (by intro x aa;simp at aa;subst aa;exact ⟨rfl,fun g h=>by cases h⟩);simpa using this
 simp [G,stepG,unwind,callDeferred,invoke,al,GStep.after] at af ⊢;exact af
theorem ac9{n:Nat}{f:FuncId}{fn:Func}{c:Code}{args:List Value}{gS:ay->ab->Value->Prop}{ms:jF}(hz:ms≠.reg)(aP:Tryz.prog.funcs[f]? =some fn)(hb:fn.body=some c)(ao:fn.ntmps=n)(atc:fn.results=#[])
  (aA:args.length<=n) (cW:ga n c=true)
  (u:cF Tryz.prog true (SM tM tW os0 Post) n (fE f) c (fun x=>match x with|.ext _=>fun _ _ _ _=>False|_=>fun e d s h=>d=[{target:=.fn (.func 129) #[],args:=#[]}]/\gJ s wg mu ms 1/\∀γ,gK s γ->gJ γ wg mu ms 0->gS γ h (.tuple #[])) (dE args) [] s h):
  bI Tryz.prog true (SM tM tW os0 Post) f args.toArray s h gS:=by
 intro Q aY cs hc;have r:iH n ⟨args.toArray++Array.replicate (n- args.toArray.size) undef,[]⟩ (dE args):=by
  refine ⟨by simp;omega,fun t=> ?_⟩;simp only [dE,Array.getD_eq_getD_getElem?,List.getD_eq_getElem?_getD,Array.getElem?_append,List.size_toArray];by_cases aj:t<args.length
  ·simp [aj]
  ·simp only [aj,if_false];rw [List.getElem?_eq_none (by omega)];simp only [Array.getElem?_replicate];split<;>rfl
 have e:Frame.enter Tryz.prog f args.toArray .normal=(fE f).at ⟨args.toArray++Array.replicate (n- args.toArray.size) undef,[]⟩ [.code c]:=by
  simp [Frame.enter,bn.at,aP,hb,ao]
 rw [e];have fin:∀todo (a:Act) (s:ay) (h:ab),a.defers=[{target:=.fn (.func 129) #[],args:=#[]}]->gJ s wg mu ms 1->(∀γ,gK s γ->gJ γ wg mu ms 0->gS γ h (.tuple #[]))->
   dp Tryz.prog true (SM tM tW os0 Post) Q s h (Conc.G {(fE f).at a todo with mode:=.returning} (aY::cs)):=fun todo a s h hd M awq=>by
  refine dp.sync ⟨rfl,rfl,fun γ n' dX w t al cQ gx=>.inr (.inl ?_)⟩;have R:=so al M.aR;have M2:=M.rel R;have cj:=agv (main:=true) (fnn:=f) (tmps:=a.tmps) (todo:=todo) (ds:=[]) (kind:=.normal) (ro:=none) (cs:=aY::cs) (w:=w);have atd:stepG Tryz.prog true (Conc.G {(fE f).at a todo with mode:=.returning} (aY::cs)) w=.go (Conc.G {(fE f).at ⟨a.tmps,[]⟩ todo with mode:=.returning} (aY::cs)) w #[⟨.mark .enable,false,true⟩]:=by
   simp only [bn.at,hd];exact cj
  have wD:=cQ.gp (ms:=γ.ms) (wv:=γ.wv) (wr:=γ.wr) (ws:=γ.ws) (es:=#[⟨.mark .enable,false,true⟩]) (w':=w) M2.on (xp cQ.hl) rfl (fun _ _=>rfl) (cQ.jd M2.on) (.refl _) (fun e he=>by simp at he;subst he;exact .inl (.inr (.inl rfl))) (Conc.G {(fE f).at a todo with mode:=.returning} (aY::cs)).frame.fn (Conc.G {(fE f).at a todo with mode:=.returning} (aY::cs)).frame.place;have gz:=M2.gp (ms':=γ.ms) (wv:=γ.wv) (wr:=γ.wr) (ws:=γ.ws) (es:=#[⟨.mark .enable,false,true⟩]) (k':=0) (by simp [deafBehind]);refine ⟨_,_,w,_,h,atd,by rw [<- gx,p9];exact wD,Wg,Xm (x5 (by rw [M2.ms];exact hz)),rfl,?_⟩;refine Tw (b:=fE f) rfl aP (Post:=fun h' v=>gS _ h' v) (fun h' v q=>hc _ h' v q) [] h ?_;simp only [kF,results,atc,aV];simp [bh];exact awq (γ.gp γ.ms γ.wv γ.wr γ.ws #[⟨.mark .enable,false,true⟩]) (gK.rel R).gp (by rw [M2.ms] at gz;rw [M2.ms];exact gz)
 refine yZ (by simp) (yV cW r u) Q [] (aY::cs) fun x a s h ⟨e,r,q⟩=> ?_;cases x with
 | ext i=>exact q.elim
 | cB=>exact .ik rfl (fun w=>FV rfl) (fin [] a s h q.1 q.2.1 q.2.2)
 | ret=>exact fun k₂=>.ik rfl (fun w=>FW rfl) (fin _ a s h q.1 q.2.1 q.2.2)
end
end
section
open Go.ConcM (OsLater muBlock)
open Go.ConcR (wgBlock WgAt stA smA)
section
variable{os0:eB}{Post:Value->World->Prop}{s γ:ay}{h h1:ab}{wg mu b0 N:Nat}{I:(Nat->List cT)->ab->Prop}{full:Nat->List cT}
theorem call134:bP Tryz.prog 134=true:=by kernel_rfl
theorem call136:bP Tryz.prog 136=true:=by kernel_rfl
theorem call150:bP Tryz.prog 150=true:=by kernel_rfl
theorem call96:bP Tryz.prog 96=true:=by kernel_rfl
theorem call103:bP Tryz.prog 103=true:=by kernel_rfl
theorem aoo(B:iZ s mu wg b0 (.eR false) 1 I full N)(ao:s.aR<=N+1000000):bI Tryz.prog true (SM 203 210 os0 Post) 134 #[.pointer (some ⟨wg,0,none⟩),.int .u64 4294967296] s h
  (fun ai h' v=>h'=h/\iZ ai mu wg b0 (.eR true) 1 I full N/\ai.aR=s.aR/\∃n:Nat,v=.int .u64 ((4294967296*n:Nat):Int)/\1<=n/\n<=1000001):=by
 refine cc (n:=10) (args:=[.pointer (some ⟨wg,0,none⟩),.int .u64 4294967296]) Tryz.func134 agr rfl (by simp) alI ?_;simp only [bc,undef,seval,ai0,U3,dE,List.getD_cons_zero,List.getD_cons_succ,Mu];refine aqp B.m (by rw [B.n0];exact ao) fun γ v r M h1 h2=> ?_;simp only [bc,undef,seval,U3];exact bT (t:=4) rfl (by omega) ⟨rfl,B.mk' r M,r.aR,v,by simp [aZ],h1,h2⟩
def Y5(mu wg b0:Nat)(I:(Nat->List cT)->ab->Prop)(full:Nat->List cT)(N aR:Nat)(h1:ab):eZ->Env->List Deferred->ay->ab->Prop:=fun x=>match x with
 | .ext _=>fun _ _ _ _=>False
 | _=>fun e d s h=>d=[{target:=.fn (.func 129) #[],args:=#[]}]/\gJ s wg mu (.eR true) 1/\∀γ,gK s γ->gJ γ wg mu (.eR true) 0->(iZ γ mu wg b0 (.eR true) 0 I full N/\γ.aR=aR/\h=h1)
theorem Wq{e:Env}{n aR:Nat}(rC:1<=n)(aI:n<4000000)(B:iZ s mu wg b0 (.eR true) 1 I full N)(iz:s.aR=aR)(e1:e 1=.int .i64 1)(e7:e 7=.int .i32 (n:Nat))(cH:e 8=.int .u32 0):
  cF Tryz.prog true (SM 203 210 os0 Post) 117 (fE 96) Ce (Y5 mu wg b0 I full N aR h1) e [{target:=.fn (.func 129) #[],args:=#[]}] s h1:=by
 have an:decide ((n:Int)<0)=false:=decide_eq_false (by omega);have az:decide (0<(n:Int))=true:=decide_eq_true (by omega);simp only [bc,undef,seval,alw,alv,aiF,aiE,aiD,aiH,aiG,aiJ,aiI,e1,e7,cH,an,az,bne,Int.reduceBNe,Int.reduceBEq,Int.reduceLT,Int.reduceGT,gt_iff_lt];exact ⟨rfl,B.m,fun γ r M=>⟨B.mk' r M,r.aR.trans iz,rfl⟩⟩
theorem Yb(D0:∀K:ay->ab->Value->Prop,(∀γ,iZ γ mu wg b0 (.eR false) 1 I full N->γ.aR=s.aR->K γ h1 (.tuple #[]))->eX Tryz.prog true (SM 203 210 os0 Post) 128 #[] s h (K:=⟨K⟩))(hh:h1 wg=none)(ao:s.aR<=N+1000000):
  bI Tryz.prog true (SM 203 210 os0 Post) 96 #[.pointer (some ⟨wg,0,none⟩),.int .i64 1] s h (fun ai h' v=>iZ ai mu wg b0 (.eR true) 0 I full N/\ai.aR=s.aR/\h'=h1):=by
 refine ac9 (n:=117) (wg:=wg) (mu:=mu) (ms:=.eR true) (args:=[.pointer (some ⟨wg,0,none⟩),.int .i64 1]) (by simp) Tryz.func96 aiS rfl rfl (by simp) aon ?_;change cF Tryz.prog true (SM 203 210 os0 Post) 117 (fE 96) z1 (Y5 mu wg b0 I full N s.aR h1) _ [] s h;simp only [bc,undef,seval,alD,aiR,aiQ,aiP,aiO,U0,dE,List.getD_cons_zero,List.getD_cons_succ,Int.reduceLT];refine D0 _ fun γ B awr=> ?_;simp only [bc,undef,seval,U0,aiN,alC,alB,UZ,UY,XY];refine aqo ?_;simp only [bc,undef,seval,UZ,UY,Wj,dE,List.getD_cons_zero,List.getD_cons_succ,FO,iJ.int,atb,aqy];refine .inl ⟨call134,(aoo B (by omega)).mono fun ai h' v q=> ?_⟩;obtain ⟨rfl,ht,ate,n,rfl,rC,lV⟩:=q;have Y6:ai.aR=s.aR:=ate.trans awr;have aI:n<4000000:=by omega
 simp only [bc,undef,seval,Wj,alA,alz,aly,alx,aiK,aiM,aiL,dE,List.getD_cons_zero,List.getD_cons_succ,NU,Xy,Ya,aI,iJ.int,U5,Y4,ata,bne,Int.reduceBNe,Int.reduceBEq,Int.reduceLT,Int.reduceGT,gt_iff_lt];cases hb:(((n:Nat):Int)==1) with
 | true=>
  simp only [bc,undef,seval,UX,UW,hb,dE,List.getD_cons_zero,Mt];refine Gy (o:=1) ht.m (.inr rfl) Y1 An Y2 hh fun dk r2 M2 _=> ?_;have j8:=ht.mk' r2 M2;refine Xq (o:=1) (.inl rfl) aob j8.m rfl (fun QC r3 gz=> ?_);have wE:=j8.mk' r3 gz;simp only [bc,undef,seval];exact Wq (n:=n) rC aI wE (r3.aR.trans (r2.aR.trans Y6)) (by simp [aZ,dE]) (by simp [aZ]) (by simp [aZ])
 | false=>
  simp only [bc,undef,seval,UX,UW,hb];exact Wq (n:=n) rC aI ht Y6 (by simp [aZ,dE]) (by simp [aZ]) (by simp [aZ])
end
end
section
open Go.ConcM (OsLater muBlock)
open Go.ConcR (wgBlock WgAt stA smA)
section
variable{os0:eB}{Post:Value->World->Prop}{s γ:ay}{h:ab}{wg mu b0 N k aR:Nat}{I:(Nat->List cT)->ab->Prop}{full:Nat->List cT}{ms:jF}{e:Env}
theorem Wr(B:iZ s mu wg b0 ms k I full N)(al:ms≠.reg):bI Tryz.prog true (SM 203 210 os0 Post) 136 #[.pointer (some ⟨wg,0,none⟩)] s h
  (fun ai h' v=>h'=h/\iZ ai mu wg b0 ms k I full N/\ai.aR=s.aR/\ai.oo/\ai.wv<=s.wv/\v=.int .u64 ((4294967296*ai.wv+ai.wr:Nat):Int)):=by
 refine cc (n:=7) (args:=[.pointer (some ⟨wg,0,none⟩)]) Tryz.func136 ags rfl (by simp) alJ ?_;simp only [bc,undef,seval,ai1,U4,dE,List.getD_cons_zero,List.getD_cons_succ,Mu];refine aof B.m al fun γ r M W aI=> ?_;simp only [bc,undef,seval,U4];exact bT (t:=2) rfl (by omega) ⟨rfl,B.mk' r M,r.aR,W,aI,by simp [aZ]⟩
theorem aop{v:Nat}(B:iZ s mu wg b0 .loop k I full N)(aI:1<=v):bI Tryz.prog true (SM 203 210 os0 Post) 150 #[.pointer (some ⟨wg,0,none⟩),.int .u64 ((4294967296*v:Nat):Int),.int .u64 ((4294967296*v+1:Nat):Int)] s h
  (fun ai h' x=>h'=h/\ai.aR=s.aR/\((x=.bool true/\iZ ai mu wg b0 .reg k I full N)\/(x=.bool false/\iZ ai mu wg b0 .loop k I full N/\ai.wv<=s.wv/\ai.wv≠v))):=by
 refine cc (n:=13) (args:=[.pointer (some ⟨wg,0,none⟩),.int .u64 ((4294967296*v:Nat):Int),.int .u64 ((4294967296*v+1:Nat):Int)]) Tryz.func150 agt rfl (by simp) alK ?_;simp only [bc,undef,seval,ai2,KT,dE,List.getD_cons_zero,List.getD_cons_succ,Mu];refine aqr B.m aI (fun γ r M=> ?_) (fun γ r M h1 h2=> ?_)
 ·simp only [bc,undef,seval,KT];exact bT (t:=6) rfl (by omega) ⟨rfl,r.aR,.inl ⟨by simp [aZ],B.mk' r M⟩⟩
 ·simp only [bc,undef,seval,KT];exact bT (t:=6) rfl (by omega) ⟨rfl,r.aR,.inr ⟨by simp [aZ],B.mk' r M,h1,h2⟩⟩
def vi(I:(Nat->List cT)->ab->Prop)(full:Nat->List cT)(N aR:Nat)(h0:ab)(s:ay)(h:ab)(v:Value):Prop:=
 ∃cL bk,Idle s/\s.aR=aR/\I cL bk/\bk.kR/\(∀i,N<=i->i<aR->cL i=full i)/\h=h0.add bk/\∀b x,bk b=some x->h0 b=none
abbrev aao(I:(Nat->List cT)->ab->Prop)(full:Nat->List cT)(N aR:Nat)(h0:ab):eZ->Env->List Deferred->ay->ab->Prop:=fun x=>match x with
 | .ext _=>fun _ _ _ _=>False
 | _=>er Tryz.prog Tryz.f103 (vi I full N aR h0) 84
theorem Xz{K:eZ->Env->List Deferred->ay->ab->Prop}{c:Code}(B:iZ s mu wg b0 ms 1 I full N)(hz:ms=.mU\/(ms=.loop/\s.wv=0))(hh:h wg=none)(e0:e 0=.pointer (some ⟨wg,0,none⟩))(hc:c=FN\/c=FM)
  (kk:∀e' ai h' v,fu 7 e e'->vi I full N s.aR h ai h' v->K .cB e' [] ai h'):cF Tryz.prog true (SM 203 210 os0 Post) 84 (fE 103) c K e [] s h:=by
 have al:ms≠.reg:=by rcases hz with rfl|⟨rfl,_⟩<;>simp
 have fin:∀e1,fu 7 e e1->∀(γ:ay),gK s γ->γ.wv<=s.wv->iZ γ mu wg b0 ms 0 I full N->∀yF:ay->ab->Value->Prop,(∀ai h' v,vi I full N s.aR h ai h' v->yF ai h' (.tuple #[]))->
   eX Tryz.prog true (SM 203 210 os0 Post) 148 #[.pointer (some ⟨wg,0,none⟩)] γ h (K:=⟨yF⟩):=fun e1 _ γ r aI ht yF hk=>by
  refine aqx ht (hz.imp_right fun h=>⟨h.1,by omega⟩) rfl fun dk cL bk i1 i2 i3 i4 i5 i6=> ?_;exact hk _ _ (.tuple #[]) ⟨cL,bk,i1,i2.trans r.aR,i3,i4,fun i a b=>i5 i a (by rw [r.aR];exact b),rfl,i6⟩
 rcases hc with rfl|rfl
 ·simp only [bc,undef,seval,agl,agk];refine Nv (.inr rfl) k6 B.m al fun γ r aI M=> ?_;have ht:=B.mk' (k':=0) r (by simpa [deafBehind] using M);simp only [bc,undef,seval,agj,e0];refine Gy (o:=0) ht.m (.inl rfl) Pp An z210 hh fun dk r2 M2 Dh=> ?_;refine fin e (fu.refl _ _) dk (r.trans r2) (by omega) (ht.mk' r2 M2) _ fun ai h' v q=> ?_;exact kk _ _ _ v (by repeat (first|exact fu.refl _ _|refine fu.upd ?_ (by omega))) q
 ·simp only [bc,undef,seval,af4,af3];refine Nv (.inr rfl) k6 B.m al fun γ r aI M=> ?_;have ht:=B.mk' (k':=0) r (by simpa [deafBehind] using M);simp only [bc,undef,seval,af2,e0];refine Gy (o:=0) ht.m (.inl rfl) Pp An z210 hh fun dk r2 M2 Dh=> ?_;refine fin e (fu.refl _ _) dk (r.trans r2) (by omega) (ht.mk' r2 M2) _ fun ai h' v q=> ?_;exact kk _ _ _ v (by repeat (first|exact fu.refl _ _|refine fu.upd ?_ (by omega))) q
theorem aqz{h:ab}[K:KK Value]{xt:TypeId}{x y:Operand}{v:Nat}(aI:v<4000000):au Tryz.prog (cr .add xt x y (.int .u64 (4294967296*v:Nat)) (.int .u64 1)) h=K.f (.int .u64 (4294967296*v+1:Nat)) h:=by
 rw [tt,show ((4294967296*v:Nat):Int)+1=((4294967296*v+1:Nat):Int) by omega,Wo (by omega)]
theorem XA{e:Env}{s:ay}{h':ab}{v:Value}{n0:Nat}(q:vi I full N aR h s h' v):aao I full N aR h .ret e [] s h':=nt rfl (show vi I full N aR h s h' (.tuple #[]) from q)
theorem alL(B:iZ s mu wg b0 .loop 1 I full N)(aI:s.wv=0)(hh:h wg=none)(e0:e 0=.pointer (some ⟨wg,0,none⟩))(e2:e 2=.int .u64 ((4294967296*0:Nat):Int))(e4:e 4=.int .u32 0)(K:eZ->Env->List Deferred->ay->ab->Prop)
  (kk:∀e' ai h' v,vi I full N s.aR h ai h' v->K .ret e' [] ai h'):cF Tryz.prog true (SM 203 210 os0 Post) 84 (fE 103) BN K e [] s h:=by
 have CQ:(0:Nat)<4000000:=by omega
 simp only [bc,undef,seval,agm];refine Xz B (.inr ⟨rfl,aI⟩) hh e0 (.inl rfl) fun e' ai h' v k q=> ?_;have bX:e' 2=.int .u64 ((4294967296*0:Nat):Int):=by rw [k 2 (by omega)];exact e2
 have e8:e' 4=.int .u32 0:=by rw [k 4 (by omega)];exact e4
 simp only [bc,undef,seval,agi,agh,agf,bX,e8,NU,CQ,bne,Int.reduceBNe,Int.reduceBEq];exact kk _ _ _ v q
theorem alM{v:Nat}(B:iZ s mu wg b0 .reg 1 I full N)(aI:v<4000000)(hh:h wg=none)(e0:e 0=.pointer (some ⟨wg,0,none⟩))(e2:e 2=.int .u64 ((4294967296*v:Nat):Int))(e4:e 4=.int .u32 0)(K:eZ->Env->List Deferred->ay->ab->Prop)
  (kk:∀e' ai h' v,vi I full N s.aR h ai h' v->K .ret e' [] ai h'):cF Tryz.prog true (SM 203 210 os0 Post) 84 (fE 103) BM K e [] s h:=by
 simp only [bc,undef,seval,age,agd,agc,agb,e0,e4,bne,Int.reduceBNe,Int.reduceBEq,Mt];refine Gy (o:=1) B.m (.inr rfl) Y1 An Y2 hh fun dk r2 M2 _=> ?_;have j8:=B.mk' r2 M2;refine Xq (o:=1) (.inr rfl) aoc j8.m rfl fun QC r3 gz=> ?_;have wE:=j8.mk' r3 gz;simp only [bc,undef,seval,aga,af9,af8,af7,af6,e0,e2,NU,aI,bne,Int.reduceBNe,Int.reduceBEq,Mt];refine aqs wE.m rfl fun en ih ay5=> ?_;have ay6:=wE.mk' ih ay5;simp only [bc,undef,seval,T2,e0,FO];refine .inl ⟨call136,(Wr ay6 (by simp)).mono fun qU h6 v6 q=> ?_⟩;obtain ⟨rfl,ack,n6,ay7,_,rfl⟩:=q;have st:=ay7.st;rw [ack.m.ms] at st;simp at st;rw [st.1,st.2.1,show ((4294967296*0+0:Nat):Int)=0 from rfl];simp only [bc,undef,seval,T2,af5,bne,Int.reduceBNe,Int.reduceBEq];refine Xz ack (.inl rfl) hh (by simp [aZ,e0]) (.inr rfl) fun e' ai h' v k q=> ?_;have RU:e' 6=.bool false:=by rw [k 6 (by omega)];simp [aZ]
 simp only [bc,undef,seval,af1,af0,afZ,RU];exact kk _ _ _ v (by rw [n6,ih.aR,r3.aR,r2.aR] at q;exact q)
theorem aoq(B:iZ s mu wg b0 (.eR false) 0 I full N)(ao:s.aR<=N+1000000)(hh:h wg=none):bI Tryz.prog true (SM 203 210 os0 Post) 103 #[.pointer (some ⟨wg,0,none⟩)] s h (vi I full N s.aR h):=by
 refine cc (n:=84) (args:=[.pointer (some ⟨wg,0,none⟩)]) Tryz.func103 agq rfl (by simp) alH ?_;change cF Tryz.prog true (SM 203 210 os0 Post) 84 (fE 103) zH (aao I full N s.aR h) _ [] s h;simp only [bc,undef,seval,aiZ,agp,ago];refine aqn B.m fun γ r M=> ?_;have Bh:=B.mk' r M;simp only [bc,undef,seval,aiY,aiX];have iz:=r.aR;refine eG (fun n e d ai h'=>d=[]/\h'=h/\e 0=.pointer (some ⟨wg,0,none⟩)/\iZ ai mu wg b0 .loop 1 I full N/\ai.aR=s.aR/\n=ai.wv) (fun n e d ai h' J=> ?_) (m:=γ.wv) ⟨rfl,rfl,by simp [aZ,dE],Bh,iz,rfl⟩;obtain ⟨rfl,rfl,e0,ht,lV,rfl⟩:=J;simp only [bc,undef,seval,aiW,U2,e0,FO];refine .inl ⟨call136,(Wr ht (by simp)).mono fun fQ h3 v3 q=> ?_⟩;obtain ⟨rfl,j8,n3,acm,aA3,rfl⟩:=q;have st:=acm.st;have aap:=acm.v;rw [j8.m.ms] at st aap;simp at st aap;have hj:=j8.n0;have hb:=KQ fQ (f:=ay.ic) (by intro d;cases d<;>simp [ay.ic]);have aI:fQ.wv<4000000:=by omega
 rw [st.1,show 4294967296*fQ.wv+0=4294967296*fQ.wv by omega];simp only [bc,undef,seval,U2,aiV,aiU,aiT,agn,Ko,Xy,Ya,aI,iJ.int,U5,Y4];cases iL:(((fQ.wv:Nat):Int)==0) with
 | true=>
  have aH:fQ.wv=0:=by simpa using iL
  simp only [bc,undef,seval,Ko,iL];refine alL j8 aH hh (by simp [aZ,e0]) (by simp [aZ,aH]) (by simp [aZ]) _ fun e' ai h' v q=> ?_;rw [n3,lV] at q;exact XA (n0:=0) q
 | false=>
  have aH:fQ.wv≠0:=by simpa using iL
  simp only [bc,undef,seval,Ko,KS,iL,e0,aqz,aI,FO];refine .inl ⟨call150,(aop j8 (by omega)).mono fun eW h4 v4 q=> ?_⟩;obtain ⟨rfl,n4,⟨rfl,wE⟩|⟨rfl,wE,fg,l3⟩⟩:=q
  ·simp only [bc,undef,seval,KS,U1];refine alM (v:=fQ.wv) wE aI hh (by simp [aZ,e0]) (by simp [aZ]) (by simp [aZ]) _ fun e' ai h' v q=> ?_;rw [n4,n3,lV] at q;exact XA (n0:=0) q
  ·simp only [bc,undef,seval,KS,U1];exact ⟨eW.wv,by omega,by first|rfl|trivial,by first|rfl|trivial,by simp [aZ,e0],wE,by omega,rfl⟩
end
end
section
variable{tM tW:TypeId}{os0:eB}{Post:Value->World->Prop}{i:Nat}{bm s:ay}{h:ab}
theorem T4{f:FuncId}{args:Array Value}{gS:ay->ab->Value->Prop}(W:lT i s)(u:h s.mu=none->h s.wg=none->bI Tryz.prog false (ep tM tW os0 Post i) f args s h gS):
  bI Tryz.prog false (ep tM tW os0 Post i) f args s h gS:=by
 by_cases hk:h s.mu=none/\h s.wg=none
 ·exact u hk.1 hk.2
 intro Q c cs k;refine dp.sync ⟨rfl,rfl,fun γ n hs w t al G hi aG e=>absurd ?_ hk⟩;have cZ:=al.s W.aR aG;obtain ⟨fx,fW,jj⟩:=G.gR (cZ.on.trans W.on);have no:∀b,b∈γ.sh->h b=none:=fun b hb=>by
  cases hh:h b with
  | none=>rfl
  | some x=>
   exfalso;rcases tp (hs:=hs) (j:=i) (b:=b) (x:=x) (by rw [e];exact hh) with q|q
   ·exact G.hi.ex.ownSh i b q hb
   ·exact G.hi.ex.n7 i b q hb
 exact ⟨no _ (by rw [<- cZ.mu];exact fx),no _ (by rw [<- cZ.wg];exact fW)⟩
theorem Kp{f:FuncId}{args:Array Value}{gS:ay->ab->Value->Prop}(iz:0<s.aR)(hn:s.on=true)(u:h s.mu=none->h s.wg=none->bI Tryz.prog true (SM tM tW os0 Post) f args s h gS):
  bI Tryz.prog true (SM tM tW os0 Post) f args s h gS:=by
 by_cases hk:h s.mu=none/\h s.wg=none
 ·exact u hk.1 hk.2
 intro Q c cs k;refine dp.sync ⟨rfl,rfl,fun γ n hs w t al G e=>absurd ?_ hk⟩;have cZ:=so al iz;obtain ⟨fx,fW,jj⟩:=G.gR (cZ.on.trans hn);have no:∀b,b∈γ.sh->h b=none:=fun b hb=>by
  cases hh:h b with
  | none=>rfl
  | some x=>
   exfalso;rcases tp (hs:=hs) (j:=0) (b:=b) (x:=x) (by rw [e];exact hh) with q|q
   ·exact G.hi.ex.ownSh 0 b q hb
   ·exact G.hi.ex.n7 0 b q hb
 exact ⟨no _ (by rw [<- cZ.mu];exact fx),no _ (by rw [<- cZ.wg];exact fW)⟩
end
section
variable{P:Program}{main:Bool}{ah:Type}{S:Sys ah}{b:bn}{s:ah}{h:ab}
theorem HG{t:TypeId}{b0:Nat}{v0 v1:Value}{ty:TypeId}{aY:Nat×Nat}{own:Bool}(aj:gq P t=some (some 2))(hb:h b0=some ⟨.cells #[v0,v1] ty aY,own⟩)[K:hE ah]:
  fa P main S b t (.pointer (some ⟨b0,0,none⟩)) s h=K.f s h (.agg #[v0,v1]):=by
 have dK:h.cell? ⟨b0,0,none⟩=some v0:=by simp [ab.cell?,hb]
 have c1:h.cell? ⟨b0,1,none⟩=some v1:=by simp [ab.cell?,hb]
 rw [u7 (K:=K) (A:=⟨b0,0,none⟩) hb,By (K:=⟨fun v h=>K.f s h v⟩) aj,p5,p5,Bq];simp only [Nat.add_zero,Nat.zero_add,dK,c1,EA];rfl
theorem ps{b0:Nat}{x:eI}(hb:h b0=some x):h.put b0 x=h:=by
 funext c;unfold ab.put;split
 ·rename_i e;subst e;exact hb.symm
 ·rfl
theorem QK{t:TypeId}{b0:Nat}{a:Option Addr}{n c:Nat}{m:Int}{k2 oA:Value}{ty:TypeId}(hs:cy P t=some 2)(hb:h b0=some ⟨.cells #[k2,oA] ty (0,0),true⟩)(K:ab->Prop):
  au P (Instr.storeAt t (.pointer (some ⟨b0,0,none⟩)) (.agg #[.slice a n c,.int .i64 m])) h (K:=⟨fun _=>K⟩)=K (h.put b0 ⟨.cells #[.slice a n c,.int .i64 m] ty (0,0),true⟩):=by
 have e:=ps hb;have key:au P (Instr.storeAt t (.pointer (some ⟨b0,0,none⟩)) (.agg #[.slice a n c,.int .i64 m])) (h.put b0 ⟨.cells #[k2,oA] ty (0,0),true⟩) (K:=⟨fun _=>K⟩)=K (h.put b0 ⟨.cells #[.slice a n c,.int .i64 m] ty (0,0),true⟩):=by
  rw [y9 (K:=⟨_⟩) hs,show ((Value.agg #[.slice a n c,.int .i64 m]).cells.size==2)=true from rfl,show (Value.agg #[.slice a n c,.int .i64 m]).cells.toList=[.slice a n c,.int .i64 m] from rfl,zj,zj];simp only [BE];exact propext ⟨fun q=>q.2.2,fun q=>⟨rfl,rfl,q⟩⟩
 rw [e] at key;exact key
theorem oq{t:TypeId}{b0:Nat}{k:Bool}{k2:Value}{ty:TypeId}(hs:cy P t=some 1)(hb:h b0=some ⟨.cells #[k2] ty (0,0),true⟩)(K:ab->Prop):
  au P (Instr.storeAt t (.pointer (some ⟨b0,0,none⟩)) (.bool k)) h (K:=⟨fun _=>K⟩)=K (h.put b0 ⟨.cells #[.bool k] ty (0,0),true⟩):=by
 have e:=ps hb;have key:au P (Instr.storeAt t (.pointer (some ⟨b0,0,none⟩)) (.bool k)) (h.put b0 ⟨.cells #[k2] ty (0,0),true⟩) (K:=⟨fun _=>K⟩)=K (h.put b0 ⟨.cells #[.bool k] ty (0,0),true⟩):=by
  rw [y9 (K:=⟨_⟩) hs,show ((Value.bool k).cells.size==1)=true from rfl,show (Value.bool k).cells.toList=[.bool k] from rfl,zj];simp only [BE];exact propext ⟨fun q=>q.2,fun q=>⟨rfl,q⟩⟩
 rw [e] at key;exact key
theorem atf{v0 v1:Value}{h:ab}[K:KK Value]:au P (Instr.extract (.tuple #[v0,v1]) 0) h=K.f v0 h:=by rw [fG];rfl
theorem atg{v0 v1:Value}{h:ab}[K:KK Value]:au P (Instr.extract (.tuple #[v0,v1]) 1) h=K.f v1 h:=by rw [fG];rfl
end
theorem aqA:gq Tryz.prog 135=some none:=by kernel_rfl
theorem QL:gq Tryz.prog 4=some none:=by kernel_rfl
theorem Cf:gq Tryz.prog 131=some (some 2):=by kernel_rfl
theorem Pq:cy Tryz.prog 131=some 2:=by kernel_rfl
theorem aaq:cy Tryz.prog 4=some 1:=by kernel_rfl
theorem z131:zeroOf Tryz.prog 131=some (.agg #[.slice none 0 0,.int .i64 0]):=by kernel_rfl
theorem aor{h:ab}{a:Option Addr}{n c:Nat}{m:Int}[K:KK Value]:au Tryz.prog (Instr.build 131 #[(0,.slice a n c),(1,.int .i64 m)]) h=K.f (.agg #[.slice a n c,.int .i64 m]) h:=Bv (by kernel_rfl)
structure we(main:Bool){ah:Type}(Sy:Sys ah)(B:ab->Prop)(fB:FuncId)(fD:Array Value)(nf:b6->b6->Int)(gf:b6->b6->Bool):Prop where
 ck:bP Tryz.prog fB=true
 le:∀h h',B h->h.aD h'->B h'
 D6:∀(h:ab) l L o x,B h->h l=some ⟨.loop L,o⟩->B (h.put l x)
 call:∀s h h0 p k a b o,B h0->h0 p=none->B h->a∈dv->b∈dv->hO h p k [a,b] o->
  bI Tryz.prog main Sy fB (#[]++#[.slice (some ⟨p,0,none⟩) 2 k]++fD) s h fun ai h' v=>ai=s/\h.aD h'/\v=.tuple #[.int .i64 (nf a b),.bool (gf a b)]
structure ay8(h:ab)(bG fb bb uC l:Nat)(fB:FuncId)(fD:Array Value)(L:Loop)(e0:Env):Prop where
 D6:h l=some ⟨.loop L,true⟩
 st:L.state=.ready
 Bi:L.pending=none
 fn:L.fn=97
 pa:L.params=#[16]
 AU:L.assign=Cc
 ay9:L.body=zX
 rel:iH 38 ⟨L.tmps,[]⟩ e0
 e4:e0 4=br uC
 e5:e0 5=br bG
 e6:e0 6=br fb
 e7:e0 7=br bb
 QM:∃o,h uC=some ⟨.cells #[.func (.func fB) #[] fD] 135 (0,0),o⟩
section
variable{tM tW:TypeId}{os0:eB}{Post:Value->World->Prop}{i:Nat}{bm s:ay}{h:ab}{bd bG fb bb uC l:Nat}{fB:FuncId}{fD:Array Value}{L:Loop}{e0:Env}{nf:b6->b6->Int}{gf:b6->b6->Bool}{B:ab->Prop}{g:List cT}
abbrev IH(Z:ay->Prop)(h1:ab)(dc l:Nat):eZ->Env->List Deferred->ay->ab->Prop:=fun x e d s h=>bf Tryz.prog (Instr.endRound l (FX x)) h fun v h'=>Z s/\(∀b x,b≠dc->h1 b=some x->h' b=some x)/\v=.bool true
theorem T5{dc:Nat}{h1 h6 gd':ab}{mg':Nat->List cT}{e:Env}{Z:ay->Prop}(hm:bm.mu=bG)(cur:dO i bm s .own 0 bd true g)(e5:e 5=br bG)(qJ:h1 l=some ⟨.loop L,true⟩)(st:L.state=.ready)(Bi:L.pending=none)
  (bU:s.I mg' gd') (qG:∀j,j≠i->mg' j=s.cL j) (hK:∀b x,gd' b=some x->h6 b=some x) (hgo:gd'.kR)
  (pW:gd' l=none) (aws:h6 l=some ⟨.loop {L with state:=.busy},true⟩) (mq:∀b x,b≠dc->b≠l->h1 b=some x->h6 b=some x/\gd' b=none) (D7:∀ai,dO i bm ai .out 0 bd false (mg' i)->Z ai):
  cF Tryz.prog false (ep tM tW os0 Post i) 38 ⟨97,.normal,some l⟩ F3 (mj 1 (IH Z h1 dc l)) e [] s h6:=by
 simp only [bc,undef,seval,ahx,e5];refine .inl ⟨call102,T4 cur.w fun hh _=>(aiz hm (by rw [<- hm,<- cur.c7.mu];exact hh) cur bU qG hK hgo).mono fun ai h' v q=> ?_⟩;obtain ⟨an,rfl⟩:=q;simp only [bc,undef,seval];have Io:(h6.del gd') l=some ⟨.loop {L with state:=.busy},true⟩:=by unfold ab.del;rw [pW];exact aws
 show bf Tryz.prog (Instr.endRound l none) (h6.del gd') _;rw [EN Io];refine ⟨D7 _ an,fun b x hb aa=> ?_,rfl⟩;by_cases jX:b=l
 ·subst jX;rw [qJ] at aa;cases aa;rw [dd,show ({({L with state:=.busy}:Loop) with state:=.ready,pending:=none}:Loop)=L by
   obtain ⟨⟩:=L;simp_all]
 ·rw [cG jX];obtain ⟨f1,f2⟩:=mq b x hb jX aa;unfold ab.del;rw [f2];exact f1
end
section
variable{tM tW:TypeId}{os0:eB}{Post:Value->World->Prop}{i:Nat}{bm s:ay}{h:ab}{bd bG fb bb uC l:Nat}{fB:FuncId}{fD:Array Value}{L:Loop}{e0:Env}{nf:b6->b6->Int}{gf:b6->b6->Bool}{B:ab->Prop}{g:List cT}
theorem aeb{a b:b6}{dc k':Nat}{n:Int}{h1 h3:ab}{e:Env}{Z:ay->Prop}(aA:a∈dv)(hb:b∈dv)(hm:bm.mu=bG)(bU:bm.I=qI bm.n0 fb bb)(b7:fb≠bb)(cur:dO i bm s .out 0 (bd+1) false g)
  (e5:e 5=br bG) (e6:e 6=br fb) (e7:e 7=br bb) (cH:e 8=.slice (some ⟨dc,0,none⟩) 2 k') (de:e 9=.int .i64 n) (qJ:h1 l=some ⟨.loop L,true⟩) (st:L.state=.ready) (Bi:L.pending=none)
  (II:h3 l=some ⟨.loop {L with state:=.busy},true⟩) (aK:hO h3 dc k' [a,b] true) (mq:∀b x,b≠l->h1 b=some x->h3 b=some x)
  (D7:∀ai,dO i bm ai .out 0 bd false (g++[(n,[a,b])])->Z ai):
  cF Tryz.prog false (ep tM tW os0 Post i) 38 ⟨97,.normal,some l⟩ GX (mj 1 (IH Z h1 dc l)) e [] s h3:=by
 have rE:dc≠l:=fun e=>by
  obtain ⟨arr,rest,q,_⟩:=aK;subst e;rw [II] at q;cases q
 simp only [bc,undef,seval,akM,e5];refine .inl ⟨call100,T4 cur.w fun hh _=>(anY hm (by rw [<- hm,<- cur.c7.mu];exact hh) cur).mono fun eW h4 v4 q=> ?_⟩;obtain ⟨bk,sP,acn,aAM,rfl,HH⟩:=q;have aco:qI bm.n0 fb bb eW.cL bk:=by rw [sP.c7.I,bU] at acn;exact acn
 have awt:vB fb bb eW.cL bk:=aco.1;have out:∀j,(j<bm.n0\/bm.n0+8<=j)->mV eW.cL i (n,[a,b]) j=[]:=fun j ae=>by
  have h1:=sP.w.n0;have h2:=sP.cap;have h3:=sP.dj;have h4:=sP.c7.n0;unfold mV;rw [if_neg (by omega)];exact aco.2 j ae
 simp only [bc,undef,seval,akL,ahz,cH,de,aor];rw [wV (K:=⟨_⟩) z131];intro c1 fe;have rU:(Value.agg #[.slice none 0 0,.int .i64 0]).cells=#[.slice none 0 0,.int .i64 0]:=rfl;rw [rU];generalize aar:h3.add bk=h4 at fe ⊢;have a3:∀b x,h3 b=some x->h4 b=some x:=fun b x aa=>by rw [<- aar];unfold ab.add;rw [aa]
 have ag:∀b x,bk b=some x->h4 b=some x:=fun b x aa=>by rw [<- aar];unfold ab.add;rw [HH b x aa];exact aa
 have cj:∀K:ab->Prop,au Tryz.prog (Instr.storeAt 131 (.pointer (some ⟨c1,0,none⟩)) (.agg #[.slice (some ⟨dc,0,none⟩) 2 k',.int .i64 n])) (h4.put c1 ⟨.cells #[.slice none 0 0,.int .i64 0] 131,true⟩) (K:=⟨fun _=>K⟩)=K ((h4.put c1 ⟨.cells #[.slice none 0 0,.int .i64 0] 131,true⟩).put c1 ⟨.cells #[.slice (some ⟨dc,0,none⟩) 2 k',.int .i64 n] 131 (0,0),true⟩):=fun K=>QK Pq dd K;simp only [bc,undef,seval,cj,qc];generalize aas:h4.put c1 ⟨.cells #[.slice (some ⟨dc,0,none⟩) 2 k',.int .i64 n] 131 (0,0),true⟩=h5;have ey:h4.aD h5:=by rw [<- aas];exact hf fe
 have aat:h5 c1=some ⟨.cells #[.slice (some ⟨dc,0,none⟩) 2 k',.int .i64 n] 131 (0,0),true⟩:=by rw [<- aas,dd]
 have aau:∀(b:bn) (K:ay->ab->Value->Prop),@fa Tryz.prog false _ (ep tM tW os0 Post i) b 131 (.pointer (some ⟨c1,0,none⟩)) eW h5 ⟨K⟩=K eW h5 (.agg #[.slice (some ⟨dc,0,none⟩) 2 k',.int .i64 n]):=fun b K=>HG (K:=⟨K⟩) Cf aat;have aav:hO h5 dc k' [a,b] true:=by
  obtain ⟨arr,rest,an,az⟩:=aK;exact ⟨arr,rest,ey _ _ (a3 _ _ an),az⟩
 have aaw:h5 l=some ⟨.loop {L with state:=.busy},true⟩:=ey _ _ (a3 _ _ II);have Pr:∀b x,b≠l->h1 b=some x->h5 b=some x/\bk b=none:=fun b x jX aa=>by
  have q:=mq b x jX aa;refine ⟨ey _ _ (a3 _ _ q),?_⟩;cases aG:bk b with
  | none=>rfl
  | some y=>rw [HH b y aG] at q;cases q
 have QN:bk l=none:=by
  cases aG:bk l with
  | none=>rfl
  | some y=>rw [HH l y aG] at II;cases II
 have QO:bk dc=none:=by
  cases aG:bk dc with
  | none=>rfl
  | some y=>obtain ⟨arr,rest,q,_⟩:=aK;rw [HH dc y aG] at q;cases q
 have g5:∀b x,bk b=some x->h5 b=some x:=fun b x aa=>ey _ _ (ag b x aa);have awu:(mV eW.cL i (n,[a,b])) i=g++[(n,[a,b])]:=by unfold mV;rw [if_pos rfl,sP.cL]
 have aax:∀j,j≠i->(mV eW.cL i (n,[a,b])) j=eW.cL j:=fun j ae=>by unfold mV;rw [if_neg ae]
 have aay:∀ai,dO i bm ai .out 0 bd false ((mV eW.cL i (n,[a,b])) i)->Z ai:=fun ai hc=>D7 ai (by rw [<- awu];exact hc);have better:∀(h6:ab),h5.aD h6->∀(e:Env) (k2 oA RV:Value),e 5=br bG->e 6=br fb->e 7=br bb->e 11=br c1->e 35=.bool true->bk bb=some ⟨.cells #[k2,oA] 131 (0,0),true⟩->bk fb=some ⟨.cells #[RV] 4 (0,0),true⟩->
   (∀j,∀b2∈eW.cL j,key (n,[a,b])<=key b2)->cF Tryz.prog false (ep tM tW os0 Post i) 38 ⟨97,.normal,some l⟩ F4 (tG (cF Tryz.prog false (ep tM tW os0 Post i) 38 ⟨97,.normal,some l⟩ F3 (mj 1 (IH Z h1 dc l))) (mj 1 (IH Z h1 dc l))) e [] eW h6:=fun h6 dY e k2 oA RV e5 e6 e7 nI awv gb gf sj=>by
  have rS:h6 bb=some ⟨.cells #[k2,oA] 131 (0,0),true⟩:=dY _ _ (g5 _ _ gb);have aww:∀(b:bn) (K:ay->ab->Value->Prop),@fa Tryz.prog false _ (ep tM tW os0 Post i) b 131 (.pointer (some ⟨c1,0,none⟩)) eW h6 ⟨K⟩=K eW h6 (.agg #[.slice (some ⟨dc,0,none⟩) 2 k',.int .i64 n]):=fun b K=>HG (K:=⟨K⟩) Cf (dY _ _ aat);have aA4:c1≠bb:=fun e=>by subst e;rw [ag _ _ gb] at fe;cases fe
  have aza:(h6.put bb ⟨.cells #[.slice (some ⟨dc,0,none⟩) 2 k',.int .i64 n] 131 (0,0),true⟩) fb=some ⟨.cells #[RV] 4 (0,0),true⟩:=by rw [cG b7];exact dY _ _ (g5 _ _ gf)
  have Bc:∀K:ab->Prop,au Tryz.prog (Instr.storeAt 131 (.pointer (some ⟨bb,0,none⟩)) (.agg #[.slice (some ⟨dc,0,none⟩) 2 k',.int .i64 n])) h6 (K:=⟨fun _=>K⟩)=K (h6.put bb ⟨.cells #[.slice (some ⟨dc,0,none⟩) 2 k',.int .i64 n] 131 (0,0),true⟩):=fun K=>QK Pq rS K;have azb:=fun K:ab->Prop=>oq (P:=Tryz.prog) (t:=4) (k:=true) aaq aza K;simp only [bc,undef,seval,Ux,ahy,e5,e6,e7,nI,awv,br,aww,Bc,azb];obtain ⟨arr,rest,an,az,aB⟩:=aav;have awx:dc≠fb:=fun e=>by subst e;rw [QO] at gf;cases gf
  have awy:dc≠bb:=fun e=>by subst e;rw [QO] at gb;cases gb
  have aaz:l≠fb:=fun e=>by subst e;rw [QN] at gf;cases gf
  have aaA:l≠bb:=fun e=>by subst e;rw [QN] at gb;cases gb
  have RX:eW.I (mV eW.cL i (n,[a,b])) (iP fb bb dc k' n arr):=by
   rw [sP.c7.I,bU];exact ⟨vB.better aA hb sj awx awy az aB,out⟩
  refine T5 (gd':=iP fb bb dc k' n arr) (L:=L) hm sP (by simp [aZ,e5,br]) qJ st Bi RX aax (fun b x aa=> ?_) (UQ _ _ _ _ _ _) ?_ ?_ (fun b x IJ jX aa=> ?_) aay
  ·unfold iP at aa;split at aa
   ·rename_i e;subst e;cases aa;exact dd
   ·rename_i db;rw [cG db];split at aa
    ·rename_i e;subst e;cases aa;exact dd
    ·rename_i dB;rw [cG dB];split at aa
     ·rename_i e;subst e;cases aa;exact dY _ _ an
     ·cases aa
  ·unfold iP;rw [if_neg aaz,if_neg aaA,if_neg (Ne.symm rE)]
  ·rw [cG aaz,cG aaA];exact dY _ _ aaw
  ·obtain ⟨f1,f2⟩:=Pr b x jX aa;have aaB:b≠fb:=fun e=>by subst e;rw [f2] at gf;cases gf
   have aaC:b≠bb:=fun e=>by subst e;rw [f2] at gb;cases gb
   rw [cG aaB,cG aaC];exact ⟨dY _ _ f1,by unfold iP;rw [if_neg aaB,if_neg aaC,if_neg IJ]⟩
 rcases awt with ⟨hg,rfl⟩|⟨i0,c,a0,b0,p0,k0,xI,aqB,nJ,cN,AV,iL,sj,db,dB,vC,eJ,rfl⟩
 ·
  have gf:kv fb bb fb=some ⟨.cells #[.bool false] 4 (0,0),true⟩:=by unfold kv;rw [if_pos rfl]
  have gb:kv fb bb bb=some ⟨.cells #[.slice none 0 0,.int .i64 0] 131 (0,0),true⟩:=by unfold kv;rw [if_neg (Ne.symm b7),if_pos rfl]
  have QP:∀(b:bn) (K:ay->ab->Value->Prop),@fa Tryz.prog false _ (ep tM tW os0 Post i) b 4 (.pointer (some ⟨fb,0,none⟩)) eW h5 ⟨K⟩=K eW h5 (.bool false):=fun b K=>jN (K:=⟨K⟩) QL (A:=⟨fb,0,none⟩) (g5 _ _ gf) rfl rfl;simp only [bc,undef,seval,E4,e6,br,QP,aau];refine better h5 (akc _) _ _ _ _ ?_ ?_ ?_ ?_ ?_ gb gf fun j b2 eY=> ?_
  ·simp [aZ,e5]
  ·simp [aZ,e6]
  ·simp [aZ,e7]
  ·simp [aZ,br]
  ·simp [aZ]
  ·rw [hg j] at eY;cases eY
 ·
  have gf:iP fb bb p0 k0 c.1 xI fb=some ⟨.cells #[.bool true] 4 (0,0),true⟩:=by unfold iP;rw [if_pos rfl]
  have gb:iP fb bb p0 k0 c.1 xI bb=some ⟨.cells #[.slice (some ⟨p0,0,none⟩) 2 k0,.int .i64 c.1] 131 (0,0),true⟩:=by unfold iP;rw [if_neg (Ne.symm b7),if_pos rfl]
  have nS:iP fb bb p0 k0 c.1 xI p0=some ⟨.cells xI 57 (0,0),true⟩:=by unfold iP;rw [if_neg db,if_neg dB,if_pos rfl]
  have awz:dc≠p0:=fun e=>by subst e;rw [QO] at nS;cases nS
  have QP:∀(b:bn) (K:ay->ab->Value->Prop),@fa Tryz.prog false _ (ep tM tW os0 Post i) b 4 (.pointer (some ⟨fb,0,none⟩)) eW h5 ⟨K⟩=K eW h5 (.bool true):=fun b K=>jN (K:=⟨K⟩) QL (A:=⟨fb,0,none⟩) (g5 _ _ gf) rfl rfl;have awA:∀(b:bn) (K:ay->ab->Value->Prop),@fa Tryz.prog false _ (ep tM tW os0 Post i) b 131 (.pointer (some ⟨bb,0,none⟩)) eW h5 ⟨K⟩=K eW h5 (.agg #[.slice (some ⟨p0,0,none⟩) 2 k0,.int .i64 c.1]):=fun b K=>HG (K:=⟨K⟩) Cf (g5 _ _ gb);have awB:hO h5 p0 k0 [a0,b0] true:=⟨xI,aqB,g5 _ _ nS,vC,eJ⟩;have cmp:=aim (main:=false) (Sy:=ep tM tW os0 Post i) (s:=eW) (n:=n) (n':=c.1) aA hb AV iL awz aav awB;simp only [AR] at cmp;have ck:key c=key (c.1,[a0,b0]):=by rw [<- cN]
  simp only [bc,undef,seval,E4,e6,e7,br,QP,aau,awA];refine .inl ⟨call101,cmp.mono fun qU h6 v6 q=> ?_⟩;obtain ⟨rfl,dY,rfl⟩:=q;by_cases af:n<c.1\/(n=c.1/\vA a b a0 b0<0)
  ·rw [decide_eq_true af];simp only [bc,undef,seval,E4];refine better h6 dY _ _ _ _ ?_ ?_ ?_ ?_ ?_ gb gf fun j b2 eY=> ?_
   ·simp [aZ,e5]
   ·simp [aZ,e6]
   ·simp [aZ,e7]
   ·simp [aZ,br]
   ·simp [aZ]
   ·have h1:=(Xi aA hb AV iL).1 af;rw [<- ck] at h1;exact Int.le_of_lt (Int.lt_of_lt_of_le h1 (sj j b2 eY))
  ·rw [decide_eq_false af];have hle:key c<=key (n,[a,b]):=by
    have h1:=mt (Xi (n:=n) (n':=c.1) aA hb AV iL).2 af;rw [<- ck] at h1;exact Int.not_lt.1 h1
   simp only [bc,undef,seval,E4,Ux];have RX:qU.I (mV qU.cL i (n,[a,b])) (iP fb bb p0 k0 c.1 xI):=by
    rw [sP.c7.I,bU];exact ⟨vB.same nJ cN AV iL sj hle db dB vC eJ,out⟩
   exact T5 (gd':=iP fb bb p0 k0 c.1 xI) (L:=L) hm sP (by simp [aZ,e5,br]) qJ st Bi RX aax (fun b x aa=>dY _ _ (g5 b x aa)) (UQ _ _ _ _ _ _) QN (dY _ _ aaw) (fun b x IJ jX aa=>⟨dY _ _ (Pr b x jX aa).1,(Pr b x jX aa).2⟩) aay
end
section
variable{tM tW:TypeId}{os0:eB}{Post:Value->World->Prop}{i:Nat}{bm s:ay}{h:ab}{bd bG fb bb uC l:Nat}{fB:FuncId}{fD:Array Value}{L:Loop}{e0:Env}{nf:b6->b6->Int}{gf:b6->b6->Bool}{B:ab->Prop}{g:List cT}
theorem alN{a b:b6}(aA:a∈dv)(hb:b∈dv)(R:ay8 h bG fb bb uC l fB fD L e0)(O:we false (ep tM tW os0 Post i) B fB fD nf gf)(dM:B h)(hm:bm.mu=bG)(bU:bm.I=qI bm.n0 fb bb)(b7:fb≠bb)
  (cur:dO i bm s .out 0 (bd+1) false g):
  qd false (ep tM tW os0 Post i) l a b s h fun ai=>∃j1,bd<=j1/\dO i bm ai .out 0 j1 false (if gf a b then g++[(nf a b,[a,b])] else g):=by
 intro h1 dc k' bx aP aK;have qJ:=bx _ _ R.D6;refine ⟨L,true,16,qJ,R.pa,?_⟩;rw [R.fn,R.AU,R.ay9];have r:=r7 (dst:=some 16) R.rel (by decide) (.slice (some ⟨dc,0,none⟩) 2 k');refine JZ (n:=38) (e:=upd e0 16 (.slice (some ⟨dc,0,none⟩) 2 k')) r (by kernel_rfl) (by kernel_rfl) ?_;simp only [bc,undef,seval,akK];rw [JR qJ R.st];have rE:dc≠l:=fun e=>by subst e;rw [R.D6] at aP;cases aP
 generalize e2:h1.put l ⟨.loop {L with state:=.busy},true⟩=h2;have bX:∀b,b≠l->h2 b=h1 b:=fun b hb=>by rw [<- e2,cG hb]
 have aaD:h2 l=some ⟨.loop {L with state:=.busy},true⟩:=by rw [<- e2,dd]
 have x1:hO h2 dc k' [a,b] true:=by
  obtain ⟨arr,rest,an,az⟩:=aK;exact ⟨arr,rest,by rw [bX _ rE];exact an,az⟩
 have x6:B h2:=by rw [<- e2];exact O.D6 h1 l L true _ (O.le h h1 dM bx) qJ
 obtain ⟨o,QQ⟩:=R.QM;have awC:uC≠l:=fun e=>by subst e;rw [R.D6] at QQ;cases QQ
 have awD:∀(b:bn) (K:ay->ab->Value->Prop),@fa Tryz.prog false _ (ep tM tW os0 Post i) b 135 (.pointer (some ⟨uC,0,none⟩)) s h2 ⟨K⟩=K s h2 (.func (.func fB) #[] fD):=fun b K=>jN (K:=⟨K⟩) aqA (A:=⟨uC,0,none⟩) (by rw [bX _ awC];exact bx _ _ QQ) rfl rfl;simp only [bc,undef,seval,akP,akO,R.e4,br,awD];rw [Bs (K:=⟨_⟩) O.ck];simp only [bc,undef,seval];refine (O.call s h2 h dc k' a b true dM aP x6 aA hb x1).mono fun fQ h3 v3 q=> ?_;obtain ⟨rfl,bK,rfl⟩:=q;simp only [bc,undef,seval,atf,atg,akN,ahB,ahA];cases aG:gf a b with
 | false=>
  simp only [bc,undef,seval];show bf Tryz.prog (Instr.endRound l none) h3 _;rw [EN (bK _ _ aaD)];refine ⟨⟨bd+1,by omega,cur⟩,fun c x hc aa=> ?_,rfl⟩;by_cases kV:c=l
  ·subst kV;rw [qJ] at aa;cases aa;rw [dd,show ({({L with state:=.busy}:Loop) with state:=.ready,pending:=none}:Loop)=L by
    have h1:=R.st;have h2:=R.Bi;obtain ⟨⟩:=L;simp_all]
  ·rw [cG kV];exact bK _ _ (by rw [bX _ kV];exact aa)
 | true=>
  simp only [bc,undef,seval];refine aeb (s:=fQ) (g:=g) (bd:=bd) (n:=nf a b) (L:=L) aA hb hm bU b7 cur (by simp [aZ,R.e5]) (by simp [aZ,R.e6]) (by simp [aZ,R.e7]) (by simp [aZ]) (by simp [aZ]) qJ R.st R.Bi (bK _ _ aaD) (x1.le bK) (fun b x jX aa=>bK _ _ (by rw [bX _ jX];exact aa)) fun ai hc=> ?_;exact ⟨bd,Nat.le_refl _,hc⟩
end
section
open Go.ConcM (OsLater muBlock)
open Go.ConcR (wgBlock WgAt stA smA)
section
variable{tM tW:TypeId}{os0:eB}{Post:Value->World->Prop}{i wg:Nat}{s γ:ay}{h:ab}{d:WD}{k:Nat}{aY:Frame}{cs:List Frame}{Q:ay->ab->Goroutine->Prop}{tmps:Array Value}{todo:List Item}
theorem NV{w:World}{st jC:Int}(h:WgAt tW wg w st jC):w.cell? ⟨wg,0,none⟩=some (.int .u64 st)/\w.frozen? ⟨wg,0,none⟩=false:=⟨h.cellSt,h.thaw 0⟩
theorem awE:deafBehind 1 #[⟨.cell ⟨wg,0,none⟩,false,true⟩]=1:=by simp [deafBehind]
theorem awF:deafBehind 1 #[⟨.cell ⟨wg,0,none⟩,true,true⟩]=1:=by simp [deafBehind]
theorem aaE:deafBehind 1 #[⟨.cell ⟨wg,0,none⟩,false,true⟩,⟨.cell ⟨wg,0,none⟩,true,true⟩]=1:=by simp [deafBehind]
theorem awG:deafBehind 0 #[⟨.mark .disable,false,true⟩]=1:=by simp [deafBehind]
theorem aqC{ie:Frame×List Frame}(aj:jQ ie.1=some (170,[.pointer (some ⟨wg,0,none⟩),.int .u64 0]))(hk:iV ie.1=true)(D:lB i wg s .a2 1)
  (kk:∀s,lB i wg s .a3 1->tO tM tW os0 Post i Q s ab.empty (ie.1.finish (.tuple #[]),ie.2)):tO tM tW os0 Post i Q s ab.empty ie:=by
 obtain ⟨aY,cs⟩:=ie;refine BA an7 aj hk D ⟨by simp,by simp⟩ fun γ w dZ W jA fc=> ?_;have c3:=Gq dZ ay.gQ;simp [ay.gQ] at c3;have hz:=Gr W (.inl (by omega));have st:=W.st;have aI:=W.v;rw [hz] at st;have aE:γ.wr=1/\γ.wv=0/\γ.dI ay.gQ=1/\γ.ws=0/\γ.dI ay.hy=0:=by rcases st with st|st<;>omega
 obtain ⟨an,az,aB,aX,cp⟩:=aE;obtain ⟨eY,jy⟩:=NV fc;have gX:=tD dZ .a3 (wv:=0) (wr:=0) (ws:=0) (es:=#[⟨.cell ⟨wg,0,none⟩,true,true⟩]) ay.ic;have fi:=tD dZ .a3 (wv:=0) (wr:=0) (ws:=0) (es:=#[⟨.cell ⟨wg,0,none⟩,true,true⟩]) ay.gQ;have jk:=tD dZ .a3 (wv:=0) (wr:=0) (ws:=0) (es:=#[⟨.cell ⟨wg,0,none⟩,true,true⟩]) ay.hy;simp only [ay.ic,ay.gQ,ay.hy] at gX fi jk;have A:=aside_setCell w (stA wg) (.int .u64 0);refine ⟨.tuple #[],w.setCell (stA wg) (.int .u64 0),#[⟨.cell ⟨wg,0,none⟩,true,true⟩],.a3,0,0,0,?_,?_,?_,⟨A.size,fun b hb=>A.block b hb,?_,A.os,A.output⟩,fun j e he=> ?_,⟨?_,?_⟩,by simp,by omega,fun hh=>absurd hz hh,.inr ⟨by simp,fun qV=>kk _ (by rw [awF] at qV;exact qV)⟩⟩
 ·change Sem.run Tryz.prog (do store (<- asAddr (.pointer (some ⟨wg,0,none⟩))) (.int .u64 0) .atomic;pure Extern.Atomic.none_) w=_;simp [asAddr,eY,jy,run_store Tryz.prog w ⟨wg,0,none⟩ (.int .u64 0) .atomic rfl,Result.andThen,stA,Extern.Atomic.none_]
 ·change Sem.events Tryz.prog (do store (<- asAddr (.pointer (some ⟨wg,0,none⟩))) (.int .u64 0) .atomic;pure Extern.Atomic.none_) w _=_;simp [asAddr,eY,jy,events_store Tryz.prog w _ ⟨wg,0,none⟩ (.int .u64 0) .atomic rfl]
 ·intro y ax;simp at ax;subst ax;exact ⟨rfl,fun g h=>by cases h⟩
 ·have:=fc.setSt 0;rw [aX] at this;exact this
 ·match j,he with
  | 0,he=>simp at he;subst he;exact ⟨.inr (.inr ⟨0,_,rfl⟩),.inr (by simp [deafBehind])⟩
  | j+1,he=>simp at he
 ·show 0=_+(if γ.ms=.eR true then 1 else 0);rw [hz] at aI ⊢;simp at aI ⊢;omega
 ·show (match γ.ms with|.eR _|.loop=>_|.reg=>_|.mU|.tN=>_);rw [hz];right;exact ⟨rfl,rfl,by omega,by show 0+_=1;omega⟩
theorem aqD{ie:Frame×List Frame}(aj:jQ ie.1=some (169,[.pointer (some ⟨wg,0,none⟩)]))(hk:iV ie.1=true)(D:lB i wg s .a1 1)
  (kk:∀s,lB i wg s .a2 1->tO tM tW os0 Post i Q s ab.empty (ie.1.finish (.int .u64 1),ie.2)):tO tM tW os0 Post i Q s ab.empty ie:=by
 obtain ⟨aY,cs⟩:=ie;refine BA Xp aj hk D ⟨by simp,by simp⟩ fun γ w dZ W jA fc=> ?_;have c3:=Gq dZ ay.gQ;simp [ay.gQ] at c3;have hz:=Gr W (.inl (by omega));have st:=W.st;have aI:=W.v;rw [hz] at st;have aE:γ.wr=1/\γ.wv=0/\γ.dI ay.gQ=1/\γ.ws=0/\γ.dI ay.hy=0:=by rcases st with st|st<;>omega
 obtain ⟨an,az,aB,aX,cp⟩:=aE;obtain ⟨eY,jy⟩:=NV fc;rw [an,az] at eY;have u:=fun f=>tD dZ .a2 (wv:=γ.wv) (wr:=γ.wr) (ws:=γ.ws) (es:=#[⟨.cell ⟨wg,0,none⟩,false,true⟩]) f;have gX:=u ay.ic;have fi:=u ay.gQ;have jk:=u ay.hy;simp only [ay.ic,ay.gQ,ay.hy] at gX fi jk;refine ⟨.int .u64 1,w,#[⟨.cell ⟨wg,0,none⟩,false,true⟩],.a2,γ.wv,γ.wr,γ.ws,?_,?_,sync_r _,⟨rfl,fun b hb=>rfl,fc,rfl,rfl⟩,fun j e he=> ?_,⟨?_,?_⟩,by simp,by omega,fun hh=>⟨rfl,rfl⟩,.inr ⟨by simp,fun qV=>kk _ (by rw [awE] at qV;exact qV)⟩⟩
 ·change Sem.run Tryz.prog (do Extern.Atomic.read (.int .u64) (<- asAddr (.pointer (some ⟨wg,0,none⟩)))) w=_;simp [Extern.Atomic.read,asAddr,eY,Result.andThen]
 ·change Sem.events Tryz.prog (do Extern.Atomic.read (.int .u64) (<- asAddr (.pointer (some ⟨wg,0,none⟩)))) w _=_;simp [Extern.Atomic.read,asAddr,eY,events_load]
 ·match j,he with
  | 0,he=>simp at he;subst he;exact ⟨.inr (.inr ⟨0,_,rfl⟩),.inr (by simp [deafBehind])⟩
  | j+1,he=>simp at he
 ·show γ.wv=_+(if γ.ms=.eR true then 1 else 0);rw [hz] at aI ⊢;simp at aI ⊢;omega
 ·show (match γ.ms with|.eR _|.loop=>_|.reg=>_|.mU|.tN=>_);rw [hz];left;exact ⟨an,aX,by omega,.inr ⟨az,by omega⟩⟩
theorem aqE{ie:Frame×List Frame}(aj:jQ ie.1=some (168,[.pointer (some ⟨wg,0,none⟩),.int .u64 18446744069414584320]))(hk:iV ie.1=true)(D:lB i wg s .jE 1)
  (aE:∀v r:Nat,v<=8->r<=1->¬(v=0/\r=1)->quits Tryz.prog 129 400 1 (ie.1.finish (.int .u64 ((4294967296*v+r:Nat):Int))) ie.2=true)
  (kk:∀s,lB i wg s .a1 1->tO tM tW os0 Post i Q s ab.empty (ie.1.finish (.int .u64 1),ie.2)):tO tM tW os0 Post i Q s ab.empty ie:=by
 obtain ⟨aY,cs⟩:=ie;refine BA Xo aj hk D ⟨by simp,by simp⟩ fun γ w dZ W jA fc=> ?_;have c3:=Gq dZ ay.ic;simp [ay.ic] at c3;have hb:=KQ γ (f:=ay.ic) (by intro d;cases d<;>simp [ay.ic]);have st:=W.st;have aI:=W.v;have ot:=dZ.eN;have aA5:1<=γ.wv/\γ.wv<=9:=by split at aI<;>omega
 have gg:γ.wr<=1:=by
  cases hm:γ.ms with
  | reg=>rw [hm] at st;rcases st with st|st<;>omega
  | eR p=>rw [hm] at st;simp at st;omega
  | loop=>rw [hm] at st;simp at st;omega
  | mU=>rw [hm] at st;simp at st;omega
  | tN=>rw [hm] at st;simp at st;omega
 obtain ⟨eY,jy⟩:=NV fc;have Cd:IntKind.u64.wrap (((4294967296*γ.wv+γ.wr:Nat):Int)+18446744069414584320)=((4294967296*(γ.wv- 1)+γ.wr:Nat):Int):=by
  simp only [IntKind.wrap,IntKind.bits,IntKind.signed,Bool.false_and];simp;omega
 have A:=aside_setCell w (stA wg) (.int .u64 ((4294967296*(γ.wv- 1)+γ.wr:Nat):Int));have Ps:((Extern.Atomic.update (Op.intArith .add) .u64 true) [Value.pointer (some ⟨wg,0,none⟩),.int .u64 18446744069414584320].toArray).run Tryz.prog w=.ok (.int .u64 ((4294967296*(γ.wv- 1)+γ.wr:Nat):Int)) (w.setCell ⟨wg,0,none⟩ (.int .u64 ((4294967296*(γ.wv- 1)+γ.wr:Nat):Int))):=by
  rw [<- Cd];exact run_add_entry eY jy
 have x7:((Extern.Atomic.update (Op.intArith .add) .u64 true) [Value.pointer (some ⟨wg,0,none⟩),.int .u64 18446744069414584320].toArray).events Tryz.prog w #[⟨.mark (.extern 168),false,true⟩]=#[⟨.mark (.extern 168),false,true⟩]++#[⟨.cell ⟨wg,0,none⟩,false,true⟩,⟨.cell ⟨wg,0,none⟩,true,true⟩]:=by
  exact (events_add_entry eY jy _).trans rfl
 have iO:∀j e,(#[⟨.cell ⟨wg,0,none⟩,false,true⟩,⟨.cell ⟨wg,0,none⟩,true,true⟩]:Array Event)[j]? =some e->aam wg e/\((MemAct.ofEvent e).touch? =none\/0<deafBehind 1 ((#[⟨.cell ⟨wg,0,none⟩,false,true⟩,⟨.cell ⟨wg,0,none⟩,true,true⟩]:Array Event).extract 0 j)):=fun j e he=>by
  match j,he with
  | 0,he=>simp at he;subst he;exact ⟨.inr (.inr ⟨0,_,rfl⟩),.inr (by simp [deafBehind])⟩
  | 1,he=>simp at he;subst he;exact ⟨.inr (.inr ⟨0,_,rfl⟩),.inr (by simp [deafBehind])⟩
  | j+2,he=>simp at he
 by_cases af:γ.wv=1/\γ.wr=1
 ·obtain ⟨fg,l3⟩:=af;have hz:=Gr W (.inr (.inr l3));rw [hz] at st;have awH:γ.ws=0/\γ.dI ay.hy=0/\γ.dI ay.gQ=0:=by rcases st with st|st<;>omega
  obtain ⟨aX,cp,fw⟩:=awH;have u:=fun f=>tD dZ .a1 (wv:=0) (wr:=1) (ws:=γ.ws) (es:=#[⟨.cell ⟨wg,0,none⟩,false,true⟩,⟨.cell ⟨wg,0,none⟩,true,true⟩]) f;have gX:=u ay.ic;have fi:=u ay.gQ;have jk:=u ay.hy;simp only [ay.ic,ay.gQ,ay.hy] at gX fi jk;rw [fg,l3] at Ps;refine ⟨.int .u64 1,_,_,.a1,0,1,γ.ws,Ps,x7,sync_rw _,⟨(aside_setCell w (stA wg) _).size,fun b hb=>(aside_setCell w (stA wg) _).block b hb,fc.setSt _,(aside_setCell w (stA wg) _).os,(aside_setCell w (stA wg) _).output⟩,iO,⟨?_,?_⟩,by simp,by omega,fun hh=>absurd hz hh,.inr ⟨by simp,fun qV=>kk _ (by rw [aaE] at qV;exact qV)⟩⟩
  ·show 0=_+(if γ.ms=.eR true then 1 else 0);rw [hz] at aI ⊢;simp at aI ⊢;omega
  ·show (match γ.ms with|.eR _|.loop=>_|.reg=>_|.mU|.tN=>_);rw [hz];left;exact ⟨rfl,aX,by omega,.inr ⟨rfl,by omega⟩⟩
 ·have u:=fun f=>tD dZ .eF (wv:=γ.wv- 1) (wr:=γ.wr) (ws:=γ.ws) (es:=#[⟨.cell ⟨wg,0,none⟩,false,true⟩,⟨.cell ⟨wg,0,none⟩,true,true⟩]) f;have gX:=u ay.ic;have fi:=u ay.gQ;have jk:=u ay.hy;simp only [ay.ic,ay.gQ,ay.hy] at gX fi jk;refine ⟨_,_,_,.eF,γ.wv- 1,γ.wr,γ.ws,Ps,x7,sync_rw _,⟨A.size,fun b hb=>A.block b hb,fc.setSt _,A.os,A.output⟩,iO,⟨?_,?_⟩,by simp,by omega,fun hh=>⟨rfl,rfl⟩,.inl ⟨rfl,400,?_⟩⟩
  ·show γ.wv- 1=_+(if γ.ms=.eR true then 1 else 0);split at aI<;>rename_i aK<;>simp only [aK]<;>simp<;>omega
  ·show (match γ.ms with|.eR _|.loop=>_|.reg=>_|.mU|.tN=>_);cases hm:γ.ms with
   | reg=>rw [hm] at st;left;rcases st with st|st<;>exact ⟨show γ.wr=1 by omega,show γ.ws=0 by omega,by omega,.inl ⟨show 0<γ.wv- 1 by omega,by omega⟩⟩
   | eR p=>rw [hm] at st;simp only at st ⊢;exact ⟨show γ.wr=0 by omega,show γ.ws=0 by omega,by omega,by omega⟩
   | loop=>rw [hm] at st;simp only at st ⊢;exact ⟨show γ.wr=0 by omega,show γ.ws=0 by omega,by omega,by omega⟩
   | mU=>rw [hm] at st;simp only at st;omega
   | tN=>rw [hm] at st;simp only at st;omega
  ·rw [aaE];exact Wi (aE (γ.wv- 1) γ.wr (by omega) gg (by omega))
theorem ai5{bd:Nat}{bm:ay}{g:List cT}{e0 e1 e2 e3 e4 e5 e6 e7:Frame×List Frame}
  (Jp:FJ e0.1=some (252,170,.pointer (some ⟨wg,0,none⟩))/\iV e0.1=true) (Js:jQ e1.1=some (127,[.pointer (some ⟨wg,0,none⟩)])/\iV e1.1=true)
  (td:jQ e2.1=some (128,[])/\iV e2.1=true) (yG:jQ e3.1=some (130,[])/\iV e3.1=true)
  (wF:jQ e4.1=some (168,[.pointer (some ⟨wg,0,none⟩),.int .u64 18446744069414584320])/\iV e4.1=true) (azc:jQ e5.1=some (169,[.pointer (some ⟨wg,0,none⟩)])/\iV e5.1=true)
  (azd:jQ e6.1=some (170,[.pointer (some ⟨wg,0,none⟩),.int .u64 0])/\iV e6.1=true) (aze:jQ e7.1=some (139,[.pointer (some ⟨wg,1,none⟩),.bool false,.int .i64 0])/\iV e7.1=true)
  (azf:∀v r:Nat,v<=8->r<=1->¬(v=0/\r=1)->quits Tryz.prog 129 400 1 (e4.1.finish (.int .u64 ((4294967296*v+r:Nat):Int))) e4.2=true) (azg:quits Tryz.prog 129 400 1 (e7.1.finish (.tuple #[])) e7.2=true)
  (azh:e1=ar e0 (.pointer (some ⟨wg,0,none⟩))) (azi:e2=ar e1 (.tuple #[])) (azj:e3=ar e2 (.tuple #[])) (azk:e4=ar e3 (.bool false)) (azl:e5=ar e4 (.int .u64 1)) (azm:e6=ar e5 (.int .u64 1)) (azn:e7=ar e6 (.tuple #[])) (cur:dO i bm s .out 0 bd false g) (aG:g=s.full i) (rD:s.wg=wg) (h8:s.cap<=s.n0+8):tO tM tW os0 Post i Q s h e0:=by
 obtain ⟨t0,awI⟩:=Jp;obtain ⟨t1,awJ⟩:=Js;obtain ⟨t2,awK⟩:=td;obtain ⟨t3,awL⟩:=yG;obtain ⟨t4,awM⟩:=wF;obtain ⟨t5,awN⟩:=azc;obtain ⟨t6,awO⟩:=azd;obtain ⟨t7,awP⟩:=aze;refine aoa cur.w.aR t0 awI Pp An z210 (fun γ n hs w t r cQ=> ?_) fun γ r=> ?_
 ·have hW:=cQ.jd (r.on.trans cur.w.on);rw [r.wg,rD] at hW;exact ⟨_,(show WgAt tW wg w _ _ from hW).cellSt⟩
 refine xc (st:=e0) (v:=.pointer (some ⟨wg,0,none⟩)) ?_;rw [<- azh];refine Wh Xf t1 awJ fun dk n hs w t al cQ hi hgo he=> ?_;have iz:i<γ.aR:=Nat.lt_of_lt_of_le cur.w.aR r.aR;have R:=r.trans (al.s iz hgo);have hn:=R.on.trans cur.w.on;have Y7:dk.wg=wg:=R.wg.trans rD;have hj:dk.n0<=i:=by rw [R.n0];exact cur.w.n0
 have lY:dk.wd i=.wk:=R.wd.trans cur.w.wk;have m3:dk.bH i=0:=R.bH.trans cur.bH;have uX:=cQ.av3 cur.w.pos hi hn hj lY (R.md.trans cur.md) (by rw [R.cL,cur.cL,aG,R.full]) m3 e1.1.fn e1.1.place;rw [Y7] at uX;refine ⟨.tuple #[],w,#[⟨.mark (.releaseMerge ⟨wg,0,none⟩),false,true⟩],dk.gi i .jE dk.wv dk.wr dk.ws #[],ab.empty,by simp [Extern.Race.marked,Extern.Race.at_,Extern.Race.none_],by simp [Extern.Race.marked,Extern.Race.at_],?_,uX,Wf (Nat.le_refl _) (fun _=>⟨rfl,rfl⟩),fun _=>Xl (.inl rfl),.inr ⟨?_,?_⟩⟩
 ·intro y ax;simp at ax;subst ax;exact ⟨rfl,fun g h=>by cases h⟩
 ·intro Dg;have:=Dg.2;rw [show (dk.gi i .jE dk.wv dk.wr dk.ws #[]).wd i=.jE from Go.ConcN.upd_same _ _ _] at this;cases this
 have D0:lB i wg (dk.gi i .jE dk.wv dk.wr dk.ws #[]) .jE 0:=⟨cur.w.pos,hn,hj,Nat.lt_of_lt_of_le cur.w.aR R.aR,Go.ConcN.upd_same _ _ _,by
  show Go.ConcN.upd dk.bH i (deafBehind (dk.bH i) #[]) i=_;rw [Go.ConcN.upd_same,m3];rfl,Y7,by show dk.cap<=dk.n0+8;rw [R.cap,R.n0];exact h8⟩
 generalize dk.gi i .jE dk.wv dk.wr dk.ws #[]=s2 at D0;refine xc (st:=e1) (v:=.tuple #[]) ?_;rw [<- azi];refine BA se t2 awK D0 ⟨by simp,by simp⟩ fun γ w dZ W jA fc=> ?_;refine ⟨.tuple #[],w,#[⟨.mark .disable,false,true⟩],.jE,γ.wv,γ.wr,γ.ws,by simp [Extern.Race.none_],by simp,?_,⟨rfl,fun b hb=>rfl,fc,rfl,rfl⟩,fun j e he=> ?_,aiA W rfl rfl rfl rfl (fun f=>alr dZ f),by simp,Nat.le_refl _,fun _=>⟨rfl,rfl⟩,.inr ⟨by simp,fun qV=> ?_⟩⟩
 ·intro y ax;simp at ax;subst ax;exact ⟨rfl,fun g h=>by cases h⟩
 ·match j,he with
  | 0,he=>simp at he;subst he;exact ⟨.inl rfl,.inl rfl⟩
  | j+1,he=>simp at he
 rw [awG] at qV;generalize γ.gi i .jE γ.wv γ.wr γ.ws #[⟨.mark .disable,false,true⟩]=fQ at qV;refine xc (st:=e2) (v:=.tuple #[]) ?_;rw [<- azj];refine dp.ik rfl (fun w=>(Te (main:=false) (w:=w) (w':=w) (v:=.bool false) (evs:=#[]) zF t3 awL rfl (by simp) (by simp)).1) ?_;refine xc (st:=e3) (v:=.bool false) ?_;rw [<- azk];refine aqE t4 awM qV azf fun eW azo=> ?_;refine xc (st:=e4) (v:=.int .u64 1) ?_;rw [<- azl];refine aqD t5 awN azo fun jl azp=> ?_;refine xc (st:=e5) (v:=.int .u64 1) ?_;rw [<- azm];refine aqC t6 awO azp fun qU azq=> ?_;refine xc (st:=e6) (v:=.tuple #[]) ?_;rw [<- azn];exact aqm t7 awP azg azq
theorem aos{bd:Nat}{bm:ay}{g:List cT}(cur:dO i bm s .out 0 bd false g)(aG:g=s.full i)(rD:s.wg=wg)(h8:s.cap<=s.n0+8):dp Tryz.prog false ((fC Tryz.prog tM tW os0 Post).hM i) Q s h (Conc.G (IE wg) [IF tmps todo,uz]):=by
 have key:=ai5 (tM:=tM) (tW:=tW) (os0:=os0) (Post:=Post) (Q:=Q) (h:=h) (e0:=d0 wg tmps todo) (e1:=d1 wg tmps todo) (e2:=d2 wg tmps todo) (e3:=d3 wg tmps todo) (e4:=d4 wg tmps todo) (e5:=d5 wg tmps todo) (e6:=d6 wg tmps todo) (e7:=d7 wg tmps todo)
  ⟨(Xn wg tmps todo).1,(Xn wg tmps todo).2.1⟩ (anZ wg tmps todo) (an0 wg tmps todo) (an1 wg tmps todo) (an2 wg tmps todo) (an3 wg tmps todo) (an4 wg tmps todo) (an5 wg tmps todo)
  (fun v r aI al b7=>an6 wg tmps todo aI al b7) (as6 wg tmps todo) (by rw [d1]) (by rw [d2]) (by rw [d3]) (by rw [d4]) (by rw [d5]) (by rw [d6]) (by rw [d7]) cur aG rD h8
 have e0:d0 wg tmps todo=xm Tryz.prog 200 (IE wg) [IF tmps todo,uz]:=by rw [d0]
 refine Oy 200 ?_;rw [<- e0];exact key
end
end
end
end Go.Nk
