/- Part Pba of the proof of ButtBack: lemmas. -/
import Derived.Test.YthgephlghkjiaaaGreatDoorPar
set_option maxRecDepth 100000
set_option maxHeartbeats 4000000
set_option linter.all false
namespace Go.Nk
noncomputable section
open Go Go.Conc Go.Proofs
section
variable{ah:Type}{s:ah}{h:ab}
theorem apj{gS:ah->ab->Value->Prop}{e:Env}{c6:Nat}{a b v:Value}{o:Bool}(e6:e 6=br c6)(e7:e 7=v)(h6:h c6=some ⟨.cells #[a,b] 131 (0,0),o⟩)(p:gS s h (.tuple #[.agg #[a,b],v])):er Tryz.prog Tryz.f58 gS 27 e [] s h:=by
 have dK:h.cell? ⟨c6,0,none⟩=some a:=by simp [ab.cell?,h6]
 have c1:h.cell? ⟨c6,1,none⟩=some b:=by simp [ab.cell?,h6]
 have af:∀Q:Value->ab->Prop,bf Tryz.prog (loadVar 131 ⟨c6,0,none⟩) h Q=Q (.agg #[a,b]) h:=fun Q=>by
  rw [wN,Cf];simp only [tA,p5,Bq,Nat.add_zero,Nat.zero_add,dK,c1,EA]
 simp only [er,kF,results,show Tryz.f58.results=#[.cell 6 131,.tmp 7] from rfl];simp [aV,bh,e6,e7,br,asAddr,map_eq_pure_bind,af,-map_pure,-bind_pure_comp];exact p
end
section
variable{os0:eB}{Post:Value->World->Prop}{s:ay}{h:ab}{ba bd:Nat}{fB:FuncId}{fD:Array Value}{nf:b6->b6->Int}{gf:b6->b6->Bool}{B:ab->Prop}{bl:List Nat}{bR:Int}
def arV(h:ab)(bl:List Nat)(cs:cT)(ca cb:b6)(ai:ay)(h':ab)(v:Value):Prop:=
 Idle ai/\sR h h'/\(∀b x,h b=some x->b∉bl->h' b=some x)/\∃p k,v=.tuple #[.agg #[.slice (some ⟨p,0,none⟩) 2 k,.int .i64 cs.1],.bool true]/\h p=none/\hO h' p k [ca,cb] true
theorem apk(D:Idle s)(dM:B h)(O:∀i,we false (ep 203 210 os0 Post i) B fB fD nf gf)
  (sub:∀h h',B h->(∀b∈bl,∀x,h b=some x->∃o,h' b=some ⟨x.obj,o⟩)->B h') (wh:1<=bR) (sQ:ba≠bd) {cs:cT} {ca cb:b6} (x3:cs.2=[ca,cb]) {kx:Nat} (abD:kx<8) (jJ:cs∈jB bR nf gf (fM kx) 8)
  (jX:∀b∈bl,∃x,h b=some x) (PI:∀k,k<8->∀c∈jB bR nf gf (fM k) 8,key c<=key cs->c=cs):
  bI Tryz.prog true (SM 203 210 os0 Post) 58 #[zI ba bd,.int .i64 bR,.func (.func fB) #[] fD] s h (arV h bl cs ca cb):=by
 refine cc (n:=27) (args:=[zI ba bd,.int .i64 bR,.func (.func fB) #[] fD]) Tryz.func58 ajs rfl (by simp) aoC ?_;simp only [bc,undef,seval,al6,p6,p7,zI,w8];intro c3 ed c4 l1 c5 gG;rw [wV (K:=⟨_⟩) z131];intro c6 nd;have axw:(Value.agg #[.slice (some ⟨ba,0,none⟩) 2 2,.slice (some ⟨bd,0,none⟩) 2 2,.int .i64 20,.int .i64 1]).cells=#[.slice (some ⟨ba,0,none⟩) 2 2,.slice (some ⟨bd,0,none⟩) 2 2,.int .i64 20,.int .i64 1]:=rfl;have axx:(Value.int .i64 bR).cells=#[.int .i64 bR]:=rfl;have axy:(Value.func (.func fB) #[] fD).cells=#[.func (.func fB) #[] fD]:=rfl;have abE:(Value.agg #[.slice none 0 0,.int .i64 0]).cells=#[.slice none 0 0,.int .i64 0]:=rfl;rw [axw] at l1 gG nd ⊢;rw [axx] at gG nd ⊢;rw [axy] at nd ⊢;rw [abE];generalize e1:h.put c3 _=h1 at l1 gG nd ⊢;have bx:h.aD h1:=by rw [<- e1];exact hf ed
 have g3:h1 c3=some ⟨.cells #[.slice (some ⟨ba,0,none⟩) 2 2,.slice (some ⟨bd,0,none⟩) 2 2,.int .i64 20,.int .i64 1] 119 (0,0),true⟩:=by rw [<- e1,dd]
 clear e1;generalize e1:h1.put c4 _=h2 at gG nd ⊢;have bM:h1.aD h2:=by rw [<- e1];exact hf l1
 have g4:h2 c4=some ⟨.cells #[.int .i64 bR] 3 (0,0),true⟩:=by rw [<- e1,dd]
 clear e1;generalize e1:h2.put c5 _=h3 at nd ⊢;have bK:h2.aD h3:=by rw [<- e1];exact hf gG
 have g5:h3 c5=some ⟨.cells #[.func (.func fB) #[] fD] 135 (0,0),true⟩:=by rw [<- e1,dd]
 clear e1;generalize e1:h3.put c6 _=h4;have cd:h3.aD h4:=by rw [<- e1];exact hf nd
 have g6:h4 c6=some ⟨.cells #[.slice none 0 0,.int .i64 0] 131 (0,0),true⟩:=by rw [<- e1,dd]
 clear e1;simp only [bc,undef,seval,al5];refine aqu D 8 fun s1 mu acJ gw rC=> ?_;simp only [bc,undef,seval,al4];refine aqv acJ fun s2 wg dZ rD lV=> ?_;simp only [bc,undef,seval,al3];rw [wV (K:=⟨_⟩) z131];intro bb ry;rw [abE];generalize e1:h4.put bb _=h5;have ey:h4.aD h5:=by rw [<- e1];exact hf ry
 have Rt:h5 bb=some ⟨.cells #[.slice none 0 0,.int .i64 0] 131 (0,0),true⟩:=by rw [<- e1,dd]
 clear e1;simp only [bc,undef,seval,al2];rw [wV (K:=⟨_⟩) z4];intro fb DR;rw [show (Value.bool false).cells=#[.bool false] from rfl];have cj:∀K:ab->Prop,au Tryz.prog (Instr.storeAt 4 (.pointer (some ⟨fb,0,none⟩)) (.bool false)) (h5.put fb ⟨.cells #[.bool false] 4,true⟩) (K:=⟨fun _=>K⟩)=K ((h5.put fb ⟨.cells #[.bool false] 4,true⟩).put fb ⟨.cells #[.bool false] 4 (0,0),true⟩):=fun K=>oq aaq dd K;simp only [bc,undef,seval,cj,qc];generalize e1:h5.put fb _=h6;have dY:h5.aD h6:=by rw [<- e1];exact hf DR
 have abF:h6 fb=some ⟨.cells #[.bool false] 4 (0,0),true⟩:=by rw [<- e1,dd]
 clear e1;have fP:∀(b:bn) (K:ay->ab->Value->Prop),@fa Tryz.prog true _ (SM 203 210 os0 Post) b 119 (.pointer (some ⟨c3,0,none⟩)) s2 h6 ⟨K⟩=K s2 h6 (zI ba bd):=fun b K=>Y8 (K:=⟨K⟩) Yc (dY _ _ (ey _ _ (cd _ _ (bK _ _ (bM _ _ g3)))));simp only [bc,undef,seval,al1,al0,fP];obtain ⟨aul,axz⟩:=ajj (main:=true) (Sy:=SM 203 210 os0 Post) (s:=s2) (h:=h6) sQ;refine .inl ⟨aul,axz.mono fun fQ h7 aBL q=> ?_⟩;obtain ⟨rfl,ff,b,k0,arr,bF,rfl,gb,axA,axB,Di⟩:=q;simp only [bc,undef,seval,aqK,ajr,ajq];generalize Jd:h7.del (kv fb bb)=a8;have b7:fb≠bb:=fun e=>by subst e;rw [Rt] at DR;cases DR
 have PE:=le_trans dY ff;have AQ:∀x y,h4 x=some y->x≠bb/\x≠fb:=fun x y aa=>⟨(fun e=>by subst e;rw [aa] at ry;cases ry),(fun e=>by subst e;rw [ey _ _ aa] at DR;cases DR)⟩;have del:∀x,x≠bb->x≠fb->a8 x=h7 x:=fun x db dB=>by rw [<- Jd];unfold ab.del;rw [Ws dB db];rfl
 have yK:∀x y,h4 x=some y->a8 x=some y:=fun x y aa=>by rw [del x (AQ x y aa).1 (AQ x y aa).2];exact PE _ _ (ey _ _ aa)
 have Zt:∀x,h6 x=none->x≠bb/\x≠fb:=fun x aa=>⟨(fun e=>by subst e;rw [dY _ _ Rt] at aa;cases aa),(fun e=>by subst e;rw [abF] at aa;cases aa)⟩;have acK:∀x,h6 x=none->a8 x=h7 x:=fun x aa=>del x (Zt x aa).1 (Zt x aa).2;have JD:∀x y,h x=some y->a8 x=some y:=fun x y aa=>yK _ _ (cd _ _ (bK _ _ (bM _ _ (bx _ _ aa))));have C:acr a8 c3 c4 c5 b fb bb ba bd bR fB fD arr bF B:=⟨yK _ _ (cd _ _ (bK _ _ (bM _ _ g3))),yK _ _ (cd _ _ (bK _ _ g4)),yK _ _ (cd _ _ g5),by rw [acK b axA];exact gb,axB,fun j ae=>by unfold qh;rw [acK _ (Di j ae).2];exact (Di j ae).1,by rw [<- Jd];unfold ab.del kv;simp,by rw [<- Jd];unfold ab.del kv;rw [if_neg (Ne.symm b7)];simp,b7,sub h a8 dM fun x _ y ax=>⟨y.own,JD x y ax⟩⟩;have acL:∀x y,a8 x=some y->h7 x=some y:=fun x y aa=>by
  rw [<- Jd] at aa;unfold ab.del at aa;split at aa
  ·cases aa
  ·exact aa
 have azU:Eb a8 (x9 c3 c4 c5 bF bl) s.aR mu wg fb bb (z6 s.aR bR nf gf) 0 fQ h7:=⟨fun x y aa=>⟨y.own,acL x y aa⟩,fun x y aa _=>acL x y aa,.inl ⟨rfl,dZ,by rw [lV,rC],fun x y aa=>by
  rcases agA aa with e|e
  ·subst e;unfold kv at aa;rw [if_pos rfl] at aa;cases aa;exact ff _ _ abF
  ·subst e;unfold kv at aa;rw [if_neg (Ne.symm b7),if_pos rfl] at aa;cases aa;exact ff _ _ (dY _ _ Rt)⟩⟩
 clear D acJ dZ;refine eG (fun m e d ai h'=>d=[]/\∃j:Nat,j<=8/\m=8- j/\Eb a8 (x9 c3 c4 c5 bF bl) s.aR mu wg fb bb (z6 s.aR bR nf gf) j ai h'/\e 3=br c3/\e 4=br c4/\e 5=br c5/\e 6=br c6/\e 8=br mu/\e 9=br wg/\e 10=br bb/\e 11=br fb/\e 15=.slice (some ⟨b,0,none⟩) 8 k0/\e 16=.int .i64 8/\e 17=.int .i64 j) (fun m e d ai h' J=> ?_) (m:=8) ⟨rfl,0,by omega,rfl,azU,by simp [aZ,cM,br],by simp [aZ,cM,br],by simp [aZ,cM,br],by simp [aZ,cM,br],by simp [aZ,cM,br],by simp [aZ,cM,br],by simp [aZ,cM,br],by simp [aZ,cM,br],by simp [aZ,cM],by simp [aZ,cM],by simp [aZ,cM]⟩;obtain ⟨rfl,j,ae,rfl,J,v3,v4,v5,v6,acM,v9,v10,v11,abG,Ru,Rv⟩:=J;by_cases aaL:j=8
 ·subst aaL;have bY:decide (((8:Nat):Int)<8)=false:=by decide
  simp only [bc,undef,seval,Ve,Vd,Vb,alZ,Ru,Rv,bY,v9];rcases J.RZ with ⟨h0,_⟩|⟨_,pY,aBn⟩
  ·omega
  refine .inl ⟨call103,Kp pY.m.aR pY.m.on fun _ hw=>(aoq pY (by omega) (by rw [pY.m.wg] at hw;exact hw)).mono fun mI h9 v9 q=> ?_⟩;obtain ⟨cL,bk,w1,w2,w3,w4,rT,rfl,Bg⟩:=q;rcases w3.1 with ⟨hg,_⟩|⟨i0,c,a0,b0,p,k,su,YG,nJ,cN,AV,iL,sj,db,dB,vC,eJ,rfl⟩
  ·exfalso;have e1:=rT (s.aR+kx) (by omega) (by omega);rw [hg] at e1;have e2:z6 s.aR bR nf gf (s.aR+kx)=jB bR nf gf (fM kx) 8:=by unfold z6;rw [Nat.add_sub_cancel_left]
   rw [e2] at e1;rw [<- e1] at jJ;cases jJ
  ·have al:s.aR<=i0/\i0<s.aR+8:=by
    refine Classical.byContradiction fun ao=> ?_;have:=w3.2 i0 (by omega);rw [this] at nJ;cases nJ
   have aum:c=cs:=by
    have e1:=rT i0 al.1 (by omega);rw [e1] at nJ;refine PI (i0- s.aR) (by omega) c nJ (sj (s.aR+kx) cs ?_);rw [rT (s.aR+kx) (by omega) (by omega)];show cs∈jB bR nf gf (fM (s.aR+kx- s.aR)) 8;rw [Nat.add_sub_cancel_left];exact jJ
   subst aum;rw [x3] at cN;obtain ⟨rfl,rfl⟩:ca=a0/\cb=b0:=by simp at cN;exact cN
   have axC:iP fb bb p k c.1 su fb=some ⟨.cells #[.bool true] 4 (0,0),true⟩:=by unfold iP;rw [if_pos rfl]
   have axD:iP fb bb p k c.1 su bb=some ⟨.cells #[.slice (some ⟨p,0,none⟩) 2 k,.int .i64 c.1] 131 (0,0),true⟩:=by unfold iP;rw [if_neg (Ne.symm b7),if_pos rfl]
   have Rw:iP fb bb p k c.1 su p=some ⟨.cells su 57 (0,0),true⟩:=by unfold iP;rw [if_neg db,if_neg dB,if_pos rfl]
   have add:∀x y,iP fb bb p k c.1 su x=some y->(h'.add (iP fb bb p k c.1 su)) x=some y:=fun x y aa=>by unfold ab.add;rw [Bg x y aa];exact aa
   have old:∀x y,h' x=some y->(h'.add (iP fb bb p k c.1 su)) x=some y:=fun x y aa=>by unfold ab.add;rw [aa]
   have aBo:h4 c6=some ⟨.cells #[.slice none 0 0,.int .i64 0] 131 (0,0),true⟩:=g6;have Jv:∀x y,h4 x=some y->(h3 x=none\/∃z,h x=some z/\x∉bl)->x∉x9 c3 c4 c5 bF bl:=fun x y aa hh hm=>by
    unfold x9 at hm;rcases List.mem_append.1 hm with hm|hm
    ·rcases List.mem_append.1 hm with hm|hm
     ·simp only [List.mem_cons,List.not_mem_nil,or_false] at hm;rcases hh with hh|⟨z,aH,_⟩
      ·rcases hm with rfl|rfl|rfl
       ·rw [bK _ _ (bM _ _ g3)] at hh;cases hh
       ·rw [bK _ _ g4] at hh;cases hh
       ·rw [g5] at hh;cases hh
      ·rcases hm with rfl|rfl|rfl
       ·rw [aH] at ed;cases ed
       ·rw [bx _ _ aH] at l1;cases l1
       ·rw [bM _ _ (bx _ _ aH)] at gG;cases gG
     ·obtain ⟨q,aE,rfl⟩:=List.mem_map.1 hm;have:=(Di q (by simpa using aE)).2;rw [dY _ _ (ey _ _ aa)] at this;cases this
    ·rcases hh with hh|⟨z,aH,H0⟩
     ·obtain ⟨z,aH⟩:=jX x hm;rw [bK _ _ (bM _ _ (bx _ _ aH))] at hh;cases hh
     ·exact H0 hm
   have Rx:h' c6=some ⟨.cells #[.slice none 0 0,.int .i64 0] 131 (0,0),true⟩:=J.c7 c6 _ (yK _ _ g6) (Jv c6 _ g6 (.inl nd));simp only [bc,undef,seval,alY,alX];intro t;refine agB (bb:=bb) (fb:=fb) (c6:=c6) (p:=p) (k:=k) (n:=c.1) (by simp [aZ,v6]) (by simp [aZ,v10]) (by simp [aZ,v11]) (fun e=>(AQ c6 _ g6).1 e.symm) (fun e=>(AQ c6 _ g6).2 e.symm) (old _ _ Rx) (add _ _ axD) (add _ _ axC) (fun e' h10 PK g10 Q3 axE=> ?_) t;simp only [bc,undef,seval];have abH:∀x y,h x=some y->x≠c6:=fun x y aa e=>by subst e;rw [bK _ _ (bM _ _ (bx _ _ aa))] at nd;cases nd
   refine apj Q3 axE g10 ⟨w1,fun x y aa=> ?_,fun x y aa axF=> ?_,p,k,rfl,?_,su,YG,?_,vC,eJ⟩
   ·obtain ⟨o,q⟩:=J.fj x y (JD x y aa);exact ⟨o,PK _ _ (abH x y aa) (old _ _ q)⟩
   ·exact PK _ _ (abH x y aa) (old _ _ (J.c7 x y (JD x y aa) (Jv x y (cd _ _ (bK _ _ (bM _ _ (bx _ _ aa)))) (.inr ⟨y,aa,axF⟩))))
   ·cases hh:h p with
    | none=>rfl
    | some y=>
     obtain ⟨o,q⟩:=J.fj p y (JD p y hh);rw [Bg p _ Rw] at q;cases q
   ·exact PK _ _ (fun e=>by subst e;rw [Bg _ _ Rw] at Rx;cases Rx) (add _ _ Rw)
 ·have bY:decide ((j:Int)<8)=true:=by simp;omega
  simp only [bc,undef,seval,Ve,Vd,Vb,Ru,Rv,bY];refine aee (b:=b) (k0:=k0) C O sub wh J (by omega) (by simp [aZ,v3]) (by simp [aZ,v4]) (by simp [aZ,v5]) (by simp [aZ,acM]) (by simp [aZ,v9]) (by simp [aZ,v10]) (by simp [aZ,v11]) (by simp [aZ,abG]) (by simp [aZ,Rv]) fun e' aBp oj azV un my=> ?_;simp only [bc,undef,seval];exact ⟨8- (j+1),by omega,trivial,j+1,by omega,rfl,azV,by rw [un 3 (by omega)];simp [aZ,v3],by rw [un 4 (by omega)];simp [aZ,v4],by rw [un 5 (by omega)];simp [aZ,v5],by rw [un 6 (by omega)];simp [aZ,v6],by rw [un 8 (by omega)];simp [aZ,acM],by rw [un 9 (by omega)];simp [aZ,v9],by rw [un 10 (by omega)];simp [aZ,v10],by rw [un 11 (by omega)];simp [aZ,v11],by rw [un 15 (by omega)];simp [aZ,abG],by rw [un 16 (by omega)];simp [aZ,Ru],my⟩
end
end
end Go.Nk
