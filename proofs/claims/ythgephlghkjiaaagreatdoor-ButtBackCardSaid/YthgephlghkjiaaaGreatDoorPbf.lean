/- Part Pbf of the proof of ButtBack: lemmas. -/
import Derived.ChangeSame
import Derived.ChangeShapes
import Derived.WideShapes
import Derived.DataReads
import Derived.Test.YthgephlghkjiaaaGreatDoorRows
import Derived.LaidMore
import Derived.LaidSub
import Derived.LaidHandle
import Derived.Lib.LaidU8
import Derived.OpenShut
import Derived.Test.YthgephlghkjiaaaGreatDoorPaz
import Derived.Test.YthgephlghkjiaaaGreatDoorPbe
set_option maxRecDepth 100000
set_option maxHeartbeats 4000000
set_option linter.all false
namespace Go.Nk
noncomputable section
open Go Go.Conc Go.Proofs
theorem Kw{H:aL}:∀(L:List Nat) (t:dA cn),(∀c x,t.get c=some x->H.t.get c=some x)->∀c x,(xw H L t).get c=some x->H.t.get c=some x
 | [],t,h,c,x,e=>h c x e
 | n::L,t,h,c,x,e=>by
  rw [xw] at e;cases ao:H.t.get n with
  | none=>rw [ao] at e;exact Kw L t h c x e
  | some y=>
   rw [ao] at e;simp only [dA.nX] at e;refine Kw L _ (fun c x e=> ?_) c x e;rw [dA.tu y (n+1) t n (by omega)] at e;by_cases hc:c=n
   ·rw [if_pos hc] at e;cases e;rw [hc];exact ao
   ·rw [if_neg hc] at e;exact h c x e
theorem Fe{H:aL}{L:List Nat}{c:Nat}{x:cn}(e:({H with t:=xw H L .nil}:aL).get c=some x):H.get c=some x:=by
 obtain ⟨h1,h2⟩:=aL.get_some e;rw [aL.get_eq];have dy:dg H.bZ c=false:=h1;rw [dy];exact Kw L .nil (fun c x e=>by rw [dA.get_nil] at e;cases e) c x h2
def Az(h0:ab)(ρ:bq)(H:aL):Prop:=∀c b k x,h0 b=some x->gH H c->ρ c≠some (b,k)
section
variable{os0:eB}{Post:Value->World->Prop}
theorem YH:F1 Tryz.prog true (SM 203 210 os0 Post) Idle 12 (eH fl kp 60):=JX hR (PM 60) (EH Zv 60)
theorem Vx{h0 h h':ab}{ρ bA:bq}{H H1 H2:aL}(uW:Az h0 ρ H)(le:h0.aD h)(F:gu H ρ h H1 bA h')(af:H2.cg=H1.cg)(aG:∀c x,H2.get c=some x->H1.get c=some x):Az h0 bA H2/\h0.aD h':=by
 refine ⟨fun c b k x hb hw e=> ?_,fun b x hb=>F.mq b x (le b x hb) fun c k hw=>uW c b k x hb hw⟩;obtain ⟨w1,y,w2,w3⟩:=hw;have PX:gH H1 c:=⟨by rw [<- af];exact w1,y,aG _ _ w2,w3⟩;rcases Nat.lt_or_ge c H.ar with hc|hc
 ·rw [F.old c hc] at e;exact uW c b k x hb (gH.back F hc PX) e
 ·rcases F.lW c y b k (aG _ _ w2) hc w3 e with r|⟨dK,k0,r1,r2⟩
  ·rw [le b x hb] at r;cases r
  ·exact uW dK b k0 x hb r1 r2
theorem py{n:Nat}{b:bn}{L:List Nat}{X:List nQ}{E dH:cJ}{H H':aL}(pc:oR L (hQ (eH fl kp 60) X E H)=some (dH,H')){a y:Code}(asi:comp Tryz.prog (ef 7) a=.reg X)(cW:(comp Tryz.prog (ef 7) a).hV 12=true)(du:iu Tryz.prog (ef 7) a=true)
  {h0 h:ab} {ρ:bq} {e:Env} {s:ay} (S:cD Tryz.prog 12 ρ H.get H.ar h) (cU:12<=H.ar) (bO:l6 ρ E e) (fL:Idle s) (uW:Az h0 ρ H) (le:h0.aD h) {K:eZ->Env->List Deferred->ay->ab->Prop}
  (next:∀(bA:bq) h' e' ai,cD Tryz.prog 12 bA H'.get H'.ar h'->12<=H'.ar->l6 bA dH e'->Idle ai->Az h0 bA H'->h0.aD h'->cF Tryz.prog true (SM 203 210 os0 Post) n b y K e' [] ai h'):
  cF Tryz.prog true (SM 203 210 os0 Post) n b (.seq a y) K e [] s h:=by
 cases aa:hQ (eH fl kp 60) X E H with
 | fail=>rw [aa] at pc;cases pc
 | ok x hq H1=>
  rw [aa] at pc;cases x with
  | ext i=>cases pc
  | ret=>cases pc
  | cB=>
   cases pc;rw [X3];refine E0 (PM 60) YH (ef 7) a E H ρ h e s .cB dH H1 _ cW du (by rw [asi];exact aa) S cU fL bO fun ai bA e' h' j o5 dH F=> ?_;obtain ⟨o1,o2⟩:=Vx (H2:= {H1 with t:=xw H1 L .nil}) uW le F rfl fun c x e=>Fe e;exact next bA h' e' ai ⟨fun c x aa=>o5.blk c x (Fe aa),fun c d x y b k k' aa ax=>o5.inj c d x y b k k' (Fe aa) (Fe ax),o5.ek,o5.sn⟩ (Nat.le_trans cU F.ar) dH j o1 o2
theorem call7:bP Tryz.prog 7=true:=by kernel_rfl
theorem FU{c:Nat}{x:cn}(e:DV.get c=some x):(c=0/\x=.cs false false 145 [yO 275,yO 276,yO 277])\/(c=1/\x=.cs false false 147 [yO 289,yO 250]):=by
 obtain ⟨_,e⟩:=aL.get_some e;cases c with
 | zero=>exact .inl ⟨rfl,(Option.some.inj e).symm⟩
 | succ c=>
  have e:cond (Nat.beq (Nat.mod c 2) 0) ((dA.node (some (.cs false false 147 [yO 289,yO 250])) .nil .nil:dA cn).get (Nat.div c 2)) ((dA.nil:dA cn).get (Nat.div c 2))=some x:=e;cases hb:Nat.beq (Nat.mod c 2) 0 with
  | false=>rw [hb] at e;cases e
  | true=>
   rw [hb,cond_true] at e;have hm:c%2=0:=Nat.eq_of_beq_eq_true hb;cases hd:Nat.div c 2 with
   | zero=>
    rw [hd] at e;have:c/2=0:=hd;exact .inr ⟨by omega,(Option.some.inj e).symm⟩
   | succ d=>
    rw [hd,dA.Bz] at e;cases hY:Nat.beq (Nat.mod d 2) 0 with
    | false=>rw [hY,cond_false,dA.get_nil] at e;cases e
    | true=>rw [hY,cond_true,dA.get_nil] at e;cases e
structure vL(h:ab):Prop where
 b:∃w,h 0=some ⟨.cells #[ea 275 [],ea 276 [],ea 277 []] 145 (0,0),w⟩
 g:∃w,h 1=some ⟨.cells #[ea 289 [],ea 250 []] 147 (0,0),w⟩
theorem apu{h:ab}{s:ay}(W:vL h)(J:Idle s):bI Tryz.prog true (SM 203 210 os0 Post) 7 #[] s h fun ai h' z=>Idle ai/\h.aD h'/\z=.bool true:=by
 have hb:Tryz.f7.body=some (Tryz.f7.body.getD .skip):=by kernel_rfl
 refine cc (args:=[]) Tryz.func7 hb Tryz.ntmps7 (by simp) (by kernel_rfl) ?_;have asj:comp Tryz.prog (ef 7) (cP 13 (Tryz.f7.body.getD .skip))=Sr:=by kernel_rfl
 have auE:(comp Tryz.prog (ef 7) (cP 13 (Tryz.f7.body.getD .skip))).hV 12=true:=by kernel_rfl
 have ayb:iu Tryz.prog (ef 7) (cP 13 (Tryz.f7.body.getD .skip))=true:=by kernel_rfl
 have fA:cP 0 (Tryz.f7.body.getD .skip)=.seq (ez (cP 0 (Tryz.f7.body.getD .skip))) (cP 1 (Tryz.f7.body.getD .skip))/\comp Tryz.prog (ef 7) (ez (cP 0 (Tryz.f7.body.getD .skip)))=.reg (jo 0)/\(comp Tryz.prog (ef 7) (ez (cP 0 (Tryz.f7.body.getD .skip)))).hV 12=true/\iu Tryz.prog (ef 7) (ez (cP 0 (Tryz.f7.body.getD .skip)))=true:=⟨by kernel_rfl,by kernel_rfl,by kernel_rfl,by kernel_rfl⟩;have an:cP 1 (Tryz.f7.body.getD .skip)=.seq (ez (cP 1 (Tryz.f7.body.getD .skip))) (cP 2 (Tryz.f7.body.getD .skip))/\comp Tryz.prog (ef 7) (ez (cP 1 (Tryz.f7.body.getD .skip)))=.reg (jo 1)/\(comp Tryz.prog (ef 7) (ez (cP 1 (Tryz.f7.body.getD .skip)))).hV 12=true/\iu Tryz.prog (ef 7) (ez (cP 1 (Tryz.f7.body.getD .skip)))=true:=⟨by kernel_rfl,by kernel_rfl,by kernel_rfl,by kernel_rfl⟩;have az:cP 2 (Tryz.f7.body.getD .skip)=.seq (ez (cP 2 (Tryz.f7.body.getD .skip))) (cP 3 (Tryz.f7.body.getD .skip))/\comp Tryz.prog (ef 7) (ez (cP 2 (Tryz.f7.body.getD .skip)))=.reg (jo 2)/\(comp Tryz.prog (ef 7) (ez (cP 2 (Tryz.f7.body.getD .skip)))).hV 12=true/\iu Tryz.prog (ef 7) (ez (cP 2 (Tryz.f7.body.getD .skip)))=true:=⟨by kernel_rfl,by kernel_rfl,by kernel_rfl,by kernel_rfl⟩;have aB:cP 3 (Tryz.f7.body.getD .skip)=.seq (ez (cP 3 (Tryz.f7.body.getD .skip))) (cP 4 (Tryz.f7.body.getD .skip))/\comp Tryz.prog (ef 7) (ez (cP 3 (Tryz.f7.body.getD .skip)))=.reg (jo 3)/\(comp Tryz.prog (ef 7) (ez (cP 3 (Tryz.f7.body.getD .skip)))).hV 12=true/\iu Tryz.prog (ef 7) (ez (cP 3 (Tryz.f7.body.getD .skip)))=true:=⟨by kernel_rfl,by kernel_rfl,by kernel_rfl,by kernel_rfl⟩;have aX:cP 4 (Tryz.f7.body.getD .skip)=.seq (ez (cP 4 (Tryz.f7.body.getD .skip))) (cP 5 (Tryz.f7.body.getD .skip))/\comp Tryz.prog (ef 7) (ez (cP 4 (Tryz.f7.body.getD .skip)))=.reg (jo 4)/\(comp Tryz.prog (ef 7) (ez (cP 4 (Tryz.f7.body.getD .skip)))).hV 12=true/\iu Tryz.prog (ef 7) (ez (cP 4 (Tryz.f7.body.getD .skip)))=true:=⟨by kernel_rfl,by kernel_rfl,by kernel_rfl,by kernel_rfl⟩;have cp:cP 5 (Tryz.f7.body.getD .skip)=.seq (ez (cP 5 (Tryz.f7.body.getD .skip))) (cP 6 (Tryz.f7.body.getD .skip))/\comp Tryz.prog (ef 7) (ez (cP 5 (Tryz.f7.body.getD .skip)))=.reg (jo 5)/\(comp Tryz.prog (ef 7) (ez (cP 5 (Tryz.f7.body.getD .skip)))).hV 12=true/\iu Tryz.prog (ef 7) (ez (cP 5 (Tryz.f7.body.getD .skip)))=true:=⟨by kernel_rfl,by kernel_rfl,by kernel_rfl,by kernel_rfl⟩;have fw:cP 6 (Tryz.f7.body.getD .skip)=.seq (ez (cP 6 (Tryz.f7.body.getD .skip))) (cP 7 (Tryz.f7.body.getD .skip))/\comp Tryz.prog (ef 7) (ez (cP 6 (Tryz.f7.body.getD .skip)))=.reg (jo 6)/\(comp Tryz.prog (ef 7) (ez (cP 6 (Tryz.f7.body.getD .skip)))).hV 12=true/\iu Tryz.prog (ef 7) (ez (cP 6 (Tryz.f7.body.getD .skip)))=true:=⟨by kernel_rfl,by kernel_rfl,by kernel_rfl,by kernel_rfl⟩;have ow:cP 7 (Tryz.f7.body.getD .skip)=.seq (ez (cP 7 (Tryz.f7.body.getD .skip))) (cP 8 (Tryz.f7.body.getD .skip))/\comp Tryz.prog (ef 7) (ez (cP 7 (Tryz.f7.body.getD .skip)))=.reg (jo 7)/\(comp Tryz.prog (ef 7) (ez (cP 7 (Tryz.f7.body.getD .skip)))).hV 12=true/\iu Tryz.prog (ef 7) (ez (cP 7 (Tryz.f7.body.getD .skip)))=true:=⟨by kernel_rfl,by kernel_rfl,by kernel_rfl,by kernel_rfl⟩;have o8:cP 8 (Tryz.f7.body.getD .skip)=.seq (ez (cP 8 (Tryz.f7.body.getD .skip))) (cP 9 (Tryz.f7.body.getD .skip))/\comp Tryz.prog (ef 7) (ez (cP 8 (Tryz.f7.body.getD .skip)))=.reg (jo 8)/\(comp Tryz.prog (ef 7) (ez (cP 8 (Tryz.f7.body.getD .skip)))).hV 12=true/\iu Tryz.prog (ef 7) (ez (cP 8 (Tryz.f7.body.getD .skip)))=true:=⟨by kernel_rfl,by kernel_rfl,by kernel_rfl,by kernel_rfl⟩;have JF:cP 9 (Tryz.f7.body.getD .skip)=.seq (ez (cP 9 (Tryz.f7.body.getD .skip))) (cP 10 (Tryz.f7.body.getD .skip))/\comp Tryz.prog (ef 7) (ez (cP 9 (Tryz.f7.body.getD .skip)))=.reg (jo 9)/\(comp Tryz.prog (ef 7) (ez (cP 9 (Tryz.f7.body.getD .skip)))).hV 12=true/\iu Tryz.prog (ef 7) (ez (cP 9 (Tryz.f7.body.getD .skip)))=true:=⟨by kernel_rfl,by kernel_rfl,by kernel_rfl,by kernel_rfl⟩;have Jh:cP 10 (Tryz.f7.body.getD .skip)=.seq (ez (cP 10 (Tryz.f7.body.getD .skip))) (cP 11 (Tryz.f7.body.getD .skip))/\comp Tryz.prog (ef 7) (ez (cP 10 (Tryz.f7.body.getD .skip)))=.reg (jo 10)/\(comp Tryz.prog (ef 7) (ez (cP 10 (Tryz.f7.body.getD .skip)))).hV 12=true/\iu Tryz.prog (ef 7) (ez (cP 10 (Tryz.f7.body.getD .skip)))=true:=⟨by kernel_rfl,by kernel_rfl,by kernel_rfl,by kernel_rfl⟩;have Ji:cP 11 (Tryz.f7.body.getD .skip)=.seq (ez (cP 11 (Tryz.f7.body.getD .skip))) (cP 12 (Tryz.f7.body.getD .skip))/\comp Tryz.prog (ef 7) (ez (cP 11 (Tryz.f7.body.getD .skip)))=.reg (jo 11)/\(comp Tryz.prog (ef 7) (ez (cP 11 (Tryz.f7.body.getD .skip)))).hV 12=true/\iu Tryz.prog (ef 7) (ez (cP 11 (Tryz.f7.body.getD .skip)))=true:=⟨by kernel_rfl,by kernel_rfl,by kernel_rfl,by kernel_rfl⟩;have Jj:cP 12 (Tryz.f7.body.getD .skip)=.seq (ez (cP 12 (Tryz.f7.body.getD .skip))) (cP 13 (Tryz.f7.body.getD .skip))/\comp Tryz.prog (ef 7) (ez (cP 12 (Tryz.f7.body.getD .skip)))=.reg (jo 12)/\(comp Tryz.prog (ef 7) (ez (cP 12 (Tryz.f7.body.getD .skip)))).hV 12=true/\iu Tryz.prog (ef 7) (ez (cP 12 (Tryz.f7.body.getD .skip)))=true:=⟨by kernel_rfl,by kernel_rfl,by kernel_rfl,by kernel_rfl⟩;have e0:Tryz.f7.body.getD .skip=cP 0 (Tryz.f7.body.getD .skip):=rfl;have fin:∀(ρ:bq) (h1:ab) (e:Env) (s1:ay),cD Tryz.prog 12 ρ vK.get vK.ar h1->12<=vK.ar->l6 ρ CP e->Idle s1->Az h ρ vK->h.aD h1->cF Tryz.prog true (SM 203 210 os0 Post) 208 ⟨7,.normal,none⟩ (cP 13 (Tryz.f7.body.getD .skip)) (fun x=>match x with|.ext _=>fun _ _ _ _=>False|_=>er Tryz.prog Tryz.f7 (fun ai h' z=>Idle ai/\h.aD h'/\z=.bool true) 208) e [] s1 h1:=by
  intro ρ h1 e s1 S cU bO fL uW le;cases aa:gV (eH fl kp 60) Sr CP vK with
  | fail=>have:=ab3;rw [aa] at this;cases this
  | ok x hq H1=>
   have aI:=ab3;rw [aa] at aI;cases x with
   | ext i=>cases aI
   | cB=>cases aI
   | ret=>
    refine E0 (PM 60) YH (ef 7) _ CP vK ρ h1 e s1 .ret hq H1 _ auE ayb (by rw [asj];exact aa) S cU fL bO fun ai bA e' h' j o5 dH F=> ?_;obtain ⟨_,o2⟩:=Vx (H2:=H1) uW le F rfl fun c x e=>e;have al:=dH 0;have m5:hq.rd 0=.bool true:=Option.some.inj aI;rw [m5] at al;have he:e' 0=.bool true:=by cases eu:e' 0<;>rw [eu] at al<;>cases al;rfl
    exact bT Tryz.results7 (by simp) ⟨j,o2,he⟩
 generalize Tryz.f7.body.getD .skip=B at*
 generalize (fun x=>match x with|.ext _=>fun _ _ _ _=>False|_=>er Tryz.prog Tryz.f7 (fun ai h' z=>Idle ai/\h.aD h'/\z=.bool true) 208:eZ->Env->List Deferred->ay->ab->Prop)=K at fin ⊢;rw [e0];let fI:bq:=fun c=>if c<12 then some (c,0) else none
 have r0:∀c,c<12->fI c=some (c,0):=fun c hc=>by simp [fI,hc]
 have oy:cD Tryz.prog 12 fI DV.get DV.ar h:=by
  refine ⟨fun c x aa=> ?_,fun c d x y b k k' aa ax _ _ h1 h2=> ?_,fun c hc=> ?_,fun g aG=>r0 g aG⟩
  ·obtain ⟨w0,g0⟩:=W.b;obtain ⟨w1,g1⟩:=W.g;rcases FU aa with ⟨rfl,rfl⟩|⟨rfl,rfl⟩
   ·exact ⟨0,0,r0 0 (by decide),_,w0,[ea 275 [],ea 276 [],ea 277 []],[],g0,fun e=>(by cases e),rfl,.cons (.func _ .nil .nil) (.cons (.func _ .nil .nil) (.cons (.func _ .nil .nil) .nil)),fun _=>rfl,fun e=>(by cases e)⟩
   ·exact ⟨1,0,r0 1 (by decide),_,w1,[ea 289 [],ea 250 []],[],g1,fun e=>(by cases e),rfl,.cons (.func _ .nil .nil) (.cons (.func _ .nil .nil) .nil),fun _=>rfl,fun e=>(by cases e)⟩
  ·have hc:c<12:=by rcases FU aa with ⟨e,_⟩|⟨e,_⟩<;>omega
   have hd:d<12:=by rcases FU ax with ⟨e,_⟩|⟨e,_⟩<;>omega
   rw [r0 c hc] at h1;rw [r0 d hd] at h2;cases h1;cases h2;rfl
  ·have:12<=c:=hc;simp only [fI];rw [if_neg (by omega)]
 have az0:Az h fI DV:=fun c b k x _ hw=>by
  obtain ⟨w1,y,w2,_⟩:=hw;have:12<=c:=w1;rcases FU w2 with ⟨e,_⟩|⟨e,_⟩<;>omega
 have uS:l6 fI abK (dE []):=K8 .nil;rw [fA.1];refine py ax1 fA.2.1 fA.2.2.1 fA.2.2.2 oy (by decide) uS J az0 (ab.aD.lC h) fun uj h1 e1 s1 l7 db hq az1 az2 bx=> ?_;rw [an.1];refine py ax2 an.2.1 an.2.2.1 an.2.2.2 l7 db hq az1 az2 bx fun aBt h2 e2 s2 tg dB az3 az4 az5 bM=> ?_;rw [az.1];refine py ax3 az.2.1 az.2.2.1 az.2.2.2 tg dB az3 az4 az5 bM fun aBu h3 e3 fQ az6 n3 az7 az8 az9 bK=> ?_;rw [aB.1];refine py ax4 aB.2.1 aB.2.2.1 aB.2.2.2 az6 n3 az7 az8 az9 bK fun aBv h4 e4 eW aAa n4 aAb aAc aAd cd=> ?_;rw [aX.1];refine py ax5 aX.2.1 aX.2.2.1 aX.2.2.2 aAa n4 aAb aAc aAd cd fun aBw h5 e5 jl aAe yI aAf aAg aAh ey=> ?_;rw [cp.1];refine py ax6 cp.2.1 cp.2.2.1 cp.2.2.2 aAe yI aAf aAg aAh ey fun aBx h6 e6 qU aAi n6 aAj aAk aAl dY=> ?_;rw [fw.1];refine py ax7 fw.2.1 fw.2.2.1 fw.2.2.2 aAi n6 aAj aAk aAl dY fun aBy h7 e7 yJ aAm JA aAn aAo aAp ff=> ?_;rw [ow.1];refine py ax8 ow.2.1 ow.2.2.1 ow.2.2.2 aAm JA aAn aAo aAp ff fun aBz h8 cH acH aAq JB aAr aAs aAt fS=> ?_;rw [o8.1];refine py ax9 o8.2.1 o8.2.2.1 o8.2.2.2 aAq JB aAr aAs aAt fS fun aBA h9 de mI aAu aAv aAw aAx aAy gD=> ?_;rw [JF.1];refine py aya JF.2.1 JF.2.2.1 JF.2.2.2 aAu aAv aAw aAx aAy gD fun aAN h10 hA axv ayc ayd aye ayf ayg ir=> ?_;rw [Jh.1];refine py auA Jh.2.1 Jh.2.2.1 Jh.2.2.2 ayc ayd aye ayf ayg ir fun aAO h11 nI Rm ayh ayi ayj ayk ayl mX=> ?_;rw [Ji.1];refine py auB Ji.2.1 Ji.2.2.1 Ji.2.2.2 ayh ayi ayj ayk ayl mX fun aAP h12 nN aBB aym ayn ayo ayp ayq ss=> ?_;rw [Jj.1];refine py auC Jj.2.1 Jj.2.2.1 Jj.2.2.2 aym ayn ayo ayp ayq ss fun aAQ h13 wy aBC ayr ays ayt ayu ayv pG=> ?_;exact fin _ _ _ _ ayr ays ayt ayu ayv pG
end
section
variable{P:Program}{ah:Type}{S:Sys ah}{a:Act}{b:bn}{todo:List Item}{fn:Func}{w:World}{t n:Nat}
theorem adb(hk:b.kind=.normal)(hd:a.defers=[])(aP:P.funcs[b.fn]? =some fn)(hi:P.inits.idxOf? b.fn=none)(al:fn.results=#[.tmp t]):
  stepG P true (Conc.G {b.at a todo with mode:=.returning} []) w=.ended (.done (a.tmps.getD t undef)) w #[]:=by
 have e:(results fn a.tmps).runT P w #[]=(.ok (a.tmps.getD t undef) w,#[]):=by simp [results,al]
 simp [-Sem.runT_eq,Conc.G,stepG,unwind,bn.at,hd,aP,e,doReturn,hi,hk,GStep.after,seen]
theorem aer(hk:b.kind=.normal)(aP:P.funcs[b.fn]? =some fn)(hi:P.inits.idxOf? b.fn=none)(al:fn.results=#[.tmp t]){Q:ah->ab->Goroutine->Prop}{s:ah}{tmps:Array Value}{Post:ab->Value->Prop}
  (c1:∀h' v g,Post h' v->g.status=.running->(∀w,stepG P true g w=.ended (.done v) w #[])->Q s h' g):∀(ds:List Deferred) (h:ab),kF P ds h (fun h=>bf P (results fn tmps) h fun v h'=>Post h' v)->
   dp P true S Q s h (Conc.G {b.at ⟨tmps,ds⟩ todo with mode:=.returning} []):=by
 intro ds
 induction ds with
 | nil=>
  intro h u;refine .done (c1 h _ _ ?_ rfl fun w=>adb hk rfl aP hi al);simp only [kF,results,al,aV] at u;simpa [bh,aV] using u
 | cons d ds aN=>
  intro h u;obtain ⟨aAz,args⟩:=d;cases aAz with
  | collected r=>
   exact wO (g':=fun _=>Conc.G {b.at ⟨tmps,ds⟩ todo with mode:=.returning} []) (fn:=b.fn) rfl (fun _ _ _ _ _ _=>trivial) u fun w v w' es h' e q=>by
    obtain ⟨rfl,q⟩:=q;exact ⟨JK rfl e,aN h' q⟩
  | _=>exact u.elim
theorem adp{f:FuncId}{c:Code}{args:List Value}{s:ah}{h:ab}{Post:ah->ab->Value->Prop}{Q:ah->ab->Goroutine->Prop}(aP:P.funcs[f]? =some fn)(hb:fn.body=some c)(ao:fn.ntmps=n)
  (aA:args.length<=n) (cW:ga n c=true) (hi:P.inits.idxOf? f=none) (al:fn.results=#[.tmp t])
  (c1:∀ai h' v g,Post ai h' v->g.status=.running->(∀w,stepG P true g w=.ended (.done v) w #[])->Q ai h' g)
  (u:cF P true S n ⟨f,.normal,none⟩ c (fun x=>match x with|.ext _=>fun _ _ _ _=>False|_=>er P fn Post n) (dE args) [] s h):
  dp P true S Q s h (Conc.G (Frame.enter P f args.toArray .normal) []):=by
 have r:iH n ⟨args.toArray++Array.replicate (n- args.toArray.size) undef,[]⟩ (dE args):=by
  refine ⟨by simp;omega,fun t=> ?_⟩;simp only [dE,Array.getD_eq_getD_getElem?,List.getD_eq_getElem?_getD,Array.getElem?_append,List.size_toArray];by_cases aj:t<args.length
  ·simp [aj]
  ·simp only [aj,if_false];rw [List.getElem?_eq_none (by omega)];simp only [Array.getElem?_replicate];split<;>rfl
 have e:Frame.enter P f args.toArray .normal=(⟨f,.normal,none⟩:bn).at ⟨args.toArray++Array.replicate (n- args.toArray.size) undef,[]⟩ [.code c]:=by
  simp [Frame.enter,bn.at,aP,hb,ao]
 rw [e];refine yZ (by simp) (yV cW r u) Q [] [] fun x a s h ⟨e,r,q⟩=> ?_;have eu:=EW r;have fin:∀todo,er P fn Post n e a.defers s h->dp P true S Q s h (Conc.G {(⟨f,.normal,none⟩:bn).at a todo with mode:=.returning} []):=fun todo q=>by
  unfold er at q;rw [<- eu] at q;exact aer (b:=⟨f,.normal,none⟩) rfl aP hi al (Post:=Post s) (fun h' v g=>c1 s h' v g) a.defers h q
 cases x with
 | ext i=>exact q.elim
 | cB=>exact .ik rfl (fun w=>FV rfl) (fin [] q)
 | ret=>exact fun k₂=>.ik rfl (fun w=>FW rfl) (fin _ q)
end
def whole(W:World):ab:=fun b=>(W.heap[b]?).map fun o=>⟨o,true⟩
theorem ajO(W:World):(whole W).In W:=fun b x e=>by
 unfold whole at e;cases aE:W.heap[b]? with
 | none=>rw [aE] at e;cases e
 | some o=>rw [aE] at e;cases e;rfl
def s3:ay where
 x:=uA fun _=>0
 cap:=1
 aR:=1
 n0:=1
 wd:=fun _=>.eF
 ms:=.eR false
 wv:=0
 wr:=0
 ws:=0
 mu:=0
 wg:=0
 on:=false
 sh:=[]
 bk:=ab.empty
 cw:=none
 bH:=fun _=>0
 I:=fun _ bk=>bk=ab.empty
 cL:=fun _=>[]
 full:=fun _=>[]
 ib:=false
 b0:=0
theorem idle0:Idle s3:=⟨by decide,rfl,rfl,rfl,rfl,⟨rfl,rfl,rfl⟩,rfl⟩
theorem ayw(W:World):dh 203 210 ⟨W.os,W.output⟩ s3 1 (fun j=>if j=0 then whole W else fun _=>none) W #[]:=by
 have iI:s3.gP=ab.empty:=by simp [ay.gP,s3]
 have PO:∀{i b:Nat} {x:eI},(if i=0 then whole W else fun _=>none) b=some x->i=0:=fun {i b x} e=>by
  by_cases hi:i=0
  ·exact hi
  ·rw [if_neg hi] at e;cases e
 have PQ:∀b,¬ek s3.gP b:=fun b hb=>by rw [iI] at hb;exact wX b hb
 have HV:∀i b,¬gv (fun j=>if j=0 then whole W else fun _=>none) i b:=fun i b ⟨x,e,aa⟩=>by
  have:=PO e;subst this;simp only [if_true,whole] at e;cases aE:W.heap[b]? with
  | none=>rw [aE] at e;cases e
  | some o=>rw [aE] at e;cases e;cases aa
 have ZE:∀b,¬b∈s3.sh:=fun b hb=>by simp [s3] at hb
 refine {aR:=rfl,pos:=by decide,n0:=⟨by decide,by decide⟩,hi:= ?_,ji:= ?_,bH:=fun i _ _=> ?_,old:=fun i h0 h1=>rfl,jz:=fun h=>(by cases h),jd:=fun h=>(by cases h),gR:=fun h=>(by cases h),ok:=Xr _ _,cap:=by decide,out:=fun i _=>rfl,cw:=fun i h=>(by cases h),ll:=fun h=>(by cases h),full:=fun i _ _ _=>rfl,hl:= ?_,eF:=fun i h0 _=> ?_,os:=⟨.refl _,rfl⟩,jZ:=fun h=>(by cases h),j0:=fun h=>(by cases h),ku:=fun i _ _=>⟨rfl,rfl⟩}
 ·refine {eb:=fun i=> ?_,pD:= ?_,ex:= ?_,out:=fun i hi=> ?_,low:=fun b hb=>(ZE b hb).elim,fp:= ?_}
  ·by_cases hi:i=0
   ·simp only [hi,if_true];exact ajO W
   ·simp only [hi,if_false];intro b x e;cases e
  ·rw [iI];intro b x e;cases e
  ·exact ⟨fun i j b ⟨x,e,_⟩ ⟨y,e',_⟩=>(PO e).trans (PO e').symm,fun i j b _ h=>HV j b h,fun i b _ h=>PQ b h,fun i b _ h=>ZE b h,fun i b h=>(HV i b h).elim,fun i b h=>(HV i b h).elim,fun b h=>(PQ b h).elim⟩
  ·rw [if_neg (by omega)]
  ·refine {clean:=fun said ⟨i,j,_,⟨a,b,aA,_⟩,_⟩=>by simp [Trace.act?] at aA,gs:=fun i op h=>by simp at h,low:=fun op h=>by simp at h,own:=fun i b _ _ k a aA=>by simp [touchAt,Trace.act?] at aA,ro:=fun i b _ h=>(HV i b h).elim,bk:=fun b h=>(PQ b h).elim,quiet:=fun i op x h=>by simp at h,plain:=fun i op x h=>by simp at h,norel:=fun i h=>by simp [Trace.act?] at h}
 ·exact ⟨fun i h=>by simp [Trace.act?] at h,fun i h0 h1=>by omega,fun i h0 h1=>by omega⟩
 ·simp [Deaf,Trace.deaf,s3]
 ·exact ⟨by decide,⟨rfl,rfl,by decide,by decide⟩⟩
 ·show (if i=0 then whole W else fun _=>none)=ab.empty;rw [if_neg (by omega)];rfl
theorem vL.le{h h':ab}(l:h.aD h')(t:vL h):vL h':=let ⟨w,e⟩:=t.b;let ⟨w',e'⟩:=t.g;⟨⟨w,l _ _ e⟩,⟨w',l _ _ e'⟩⟩
theorem vL.auF{h:ab}(t:vL h):tQ h:=let ⟨w,e⟩:=t.b;let ⟨w',e'⟩:=t.g;⟨⟨_,_,w,e⟩,⟨_,_,w',e'⟩⟩
def Hs(W:World)(z:Value)(Ek:World):Prop:=z=.bool true/\(whole W).In Ek/\BU ⟨W.os,W.output⟩ Ek
theorem ayx:ga 102 (Tryz.f4.body.getD .skip)=true:=by kernel_rfl
theorem ayy:Tryz.prog.inits.idxOf? 4=none:=by kernel_rfl
theorem asl{W:World}{ai:ay}{h':ab}{v:Value}{g:Goroutine}(J:Idle ai)(le:(whole W).aD h')(aI:v=.bool true)(al:g.status=.running)(cj:∀w,stepG Tryz.prog true g w=.ended (.done v) w #[]):
  (fC Tryz.prog 203 210 ⟨W.os,W.output⟩ (Hs W)).RI ai h' g:=by
 refine ⟨al,fun γ n hs w t yD (cQ:dh 203 210 ⟨W.os,W.output⟩ γ n hs w t) gx=> ?_⟩;have R:=so yD J.aR;have cR:γ.n0=n:=by rw [R.n0,J.n0,<- cQ.aR];exact ((R.z rfl).2.2.1).symm
 refine ⟨fun j h0 ae=>⟨by omega,cQ.old j h0 (by rw [cR];exact ae)⟩,v,#[],cj w,⟨aI,fun b x e=> ?_,cQ.os⟩,fun said=> ?_,?_⟩
 ·exact cQ.hi.eb 0 b x (by rw [gx];exact le b x e)
 ·rw [zG];exact cQ.hi.fp.clean said
 ·rw [zG];refine acP cQ.hi.fp.gs fun i h0 hi=>cQ.ji.jn i h0 hi ?_;unfold ay.eE;rw [if_pos (by rw [cR];exact hi)]
theorem amV{W:World}{v w:Value}{x:ej}{y:Ground}(aI:mh (whole W) v x)(hw:lG (whole W) w y)(aj:vL (whole W))(h4:oe (whole W))(h5:oQ (whole W)):
  ∃N last o w' bt,runNT Tryz.prog (N+1) (solo (Conc.G (Frame.enter Tryz.prog 4 #[v,w] .normal) []) W) #[]=(.ended o w',bt)/\runN Tryz.prog N (solo (Conc.G (Frame.enter Tryz.prog 4 #[v,w] .normal) []) W)=.next last/\
   step Tryz.prog last=.ended o w'/\Conc.Good Tryz.prog (Hs W) last o w' bt:=by
 refine (fC Tryz.prog 203 210 ⟨W.os,W.output⟩ (Hs W)).ends (γ:=s3) (h:=whole W) ?_ (ayw W);refine api (S:=SM 203 210 ⟨W.os,W.output⟩ (Hs W)) (s:=s3) (J:=Idle) (fun c hb u=> ?_) aI hw aj.auF h4 h5 (fun h' le=>apu (aj.le le) idle0) call7;have cW:ga 102 c=true:=by have:=ayx;rw [hb] at this;exact this
 exact adp (args:=[v,w]) Tryz.func4 hb Tryz.ntmps4 (by simp) cW ayy Tryz.results4 (fun ai h' z g ⟨an,az,aB⟩ al cj=>asl an az aB al cj) u
section
open Go.ChangeShapes Go.WideShapes
section
variable{H:Type}{enc:TypeId×Value->H}{P:Program}{W:World}{sp:Nat->Bool}{held:Bool}{fuel:Nat}{t e:TypeId}{cs:List Value}{x:DataW H×List MemPlace}
theorem B6{α β:Type}{f:α->β}:∀{l:List β},(∀r∈l,∃a,r=f a)->∃m:List α,l=m.map f
 | [],_=>⟨[],rfl⟩
 | r::l,h=>by
  obtain ⟨a,rfl⟩:=h r (by simp);obtain ⟨m,rfl⟩:=B6 (l:=l) fun q aE=>h q (by simp [aE]);exact ⟨a::m,rfl⟩
theorem MF{α:Type}{R:Value->α->Prop}:∀{l:List (List Value)},(∀r∈l,∃v a,r=[v]/\R v a)->∃(vs:List Value) (m:List α),l=vs.map (fun x=>[x])/\rm R vs m
 | [],_=>⟨[],[],rfl,rfl,fun i x y h=>by simp at h⟩
 | r::l,h=>by
  obtain ⟨v,a,rfl,al⟩:=h r (by simp);obtain ⟨vs,m,rfl,h1,h2⟩:=MF (l:=l) fun q aE=>h q (by simp [aE]);refine ⟨v::vs,a::m,rfl,by simp [h1],fun i x y aa ax=> ?_⟩;cases i with
  | zero=>simp at aa ax;subst aa ax;exact al
  | succ i=>simp at aa ax;exact h2 i x y aa ax
theorem K1{α β:Type}{f:α->Option β}:∀{l:List α} {m:List β},l.mapM f=some m->∀(i:Nat) (a:α),l[i]? =some a->f a=m[i]? /\m.length=l.length
 | [],m,_,i,a,h=>by simp at h
 | b::l,m,e,i,a,h=>by
  rw [List.mapM_cons] at e;cases hb:f b with
  | none=>rw [hb] at e;cases e
  | some y=>
   cases af:l.mapM f with
   | none=>rw [hb,af] at e;cases e
   | some dR=>
    rw [hb,af] at e;cases e;have hlen:dR.length=l.length:=by
     cases l with
     | nil=>cases af;rfl
     | cons c l=>exact (K1 af 0 c rfl).2
    cases i with
    | zero=>simp at h;subst h;exact ⟨by simp [hb],by simp [hlen]⟩
    | succ i=>simp at h;exact ⟨by simpa using (K1 af i a h).1,by simp [hlen]⟩
theorem EU{a:Addr}{n:Nat}{l:List Value}(h:W.cells? 0 a n=some l):l.length=n/\∀j,j<n->W.cell? (a.add j)=l[j]? :=by
 unfold World.cells? at h;rw [if_pos (Nat.zero_le _)] at h;have hh:∀j,j<n->W.cell? (a.add j)=l[j]? /\l.length=(List.range n).length:=fun j ae=>K1 h j j (by simp [ae]);refine ⟨?_,fun j ae=>(hh j ae).1⟩;cases n with
 | zero=>cases h;rfl
 | succ n=>simpa using (hh 0 (by omega)).2
theorem yY{bo:Nat}(aj:P.underlying t=some (.slice e))(hc:P.cellsOf e=bo)(aH:0<bo)(h:DataW.trod enc P W 0 sp held fuel t cs=some x):
  ∃v rows n,cs=[v]/\dx (whole W) v bo rows/\∀r∈rows,∃y,r.length=bo/\DataW.trod enc P W 0 sp held n e r=some y:=by
 rcases DataW.trod_slice aj h with ⟨rfl,_⟩|⟨a,len,cap,elems,rest,n,_,rfl,_,_,af,_,hlen,Jk,_⟩
 ·exact ⟨_,[],0,rfl,⟨none,0,0,0,rfl,rfl,.inl rfl⟩,fun r al=>by simp at al⟩
 ·rw [hc] at Jk;have key:∀i,i<len->∃r y,W.cells? 0 (a.add (i*bo)) bo=some r/\DataW.trod enc P W 0 sp held n e r=some y:=fun i hi=>by
   have:=Jk i hi;rw [List.getElem?_eq_getElem (by omega)] at this;cases aE:W.cells? 0 (a.add (i*bo)) bo with
   | none=>rw [aE] at this;cases this
   | some r=>rw [aE] at this;exact ⟨r,_,rfl,this⟩
  refine ⟨_,(List.range len).map fun i=>(W.cells? 0 (a.add (i*bo)) bo).getD [],n,rfl,⟨some a,a.off,len,cap,rfl,by simp,?_⟩,fun r al=> ?_⟩
  ·rcases Nat.eq_zero_or_pos len with h0|h0
   ·exact .inl h0
   ·right;obtain ⟨r,y,al,_⟩:=key 0 h0;have aG:=(EU al).2 0 aH;rw [List.getElem?_eq_getElem (by have:=(EU al).1;omega)] at aG;have hs:a.spot=none:=by simpa [Addr.add] using World.cell?_spot aG
    obtain ⟨b,o,s⟩:=a;simp only at hs;subst hs;refine ⟨b,rfl,?_⟩;unfold World.cell? at aG;simp only [k5,Nat.zero_mul,Nat.add_zero] at aG;split at aG
    ·rename_i c q f hb;refine ⟨c,q,f,true,by simp [whole,hb],fun i row hi j z ae=> ?_⟩;rw [List.getElem?_map] at hi;by_cases C4:i<len
     ·obtain ⟨ly,c8,eu,_⟩:=key i C4;rw [List.getElem?_range C4] at hi;simp only [Option.map_some,eu,Option.getD_some,Option.some.injEq] at hi;subst hi;obtain ⟨g1,g2⟩:=EU eu;have kr:j<bo:=by have:=(List.getElem?_eq_some_iff.1 ae).1;omega
      have:=g2 j kr;unfold World.cell? at this;simp only [k5,hb] at this;rw [ae] at this;simpa using this
     ·rw [List.getElem?_eq_none (by simp;omega)] at hi;cases hi
    ·cases aG
  ·obtain ⟨i,hi,rfl⟩:=List.mem_map.1 al;obtain ⟨r,y,eu,ax⟩:=key i (List.mem_range.1 hi);rw [eu,Option.getD_some];exact ⟨y,(EU eu).1,ax⟩
end
section
variable{H:Type}{enc:TypeId×Value->H}{W:World}{sp:Nat->Bool}{held:Bool}{fuel:Nat}{cs:List Value}{x:DataW H×List MemPlace}
theorem c3:Tryz.prog.cellsOf 3=1:=by kernel_rfl
theorem ox:Tryz.prog.cellsOf 9=1:=by kernel_rfl
theorem ayz:Tryz.prog.cellsOf 22=1:=by kernel_rfl
theorem ayA:Tryz.prog.cellsOf 23=1:=by kernel_rfl
theorem ayB:Tryz.prog.cellsOf 25=4:=by kernel_rfl
theorem ayC:Tryz.prog.cellsOf 26=1:=by kernel_rfl
theorem ayD:Tryz.prog.cellsOf 27=1:=by kernel_rfl
theorem ayE:Tryz.prog.cellsOf 29=2:=by kernel_rfl
theorem ayF:Tryz.prog.cellsOf 44=1:=by kernel_rfl
theorem ayG:Tryz.prog.cellsOf 46=1:=by kernel_rfl
theorem ayH:Tryz.prog.cellsOf 47=1:=by kernel_rfl
theorem c49:Tryz.prog.cellsOf 49=1:=by kernel_rfl
theorem ayI:Tryz.prog.cellsOf 51=4:=by kernel_rfl
theorem ayJ:Tryz.prog.cellsOf 53=4:=by kernel_rfl
theorem ayK:Tryz.prog.cellsOf 63=2:=by kernel_rfl
theorem zi{fs:Array Field}{t:TypeId}{L:List (TypeId×Nat)}(aj:Tryz.prog.underlying t=some (.struct fs))(RG:fs.toList.map (fun f=>(f.type,f.offset))=L)(h:DataW.trod enc Tryz.prog W 0 sp held fuel t cs=some x):
  ∀(i:Nat) (ft:TypeId) (off:Nat),L[i]? =some (ft,off)->∃n y,DataW.trod enc Tryz.prog W 0 sp held n ft ((cs.drop off).take (Tryz.prog.cellsOf ft))=some y:=by
 obtain ⟨xs,n,_,_,_,hlen,aP⟩:=DataW.trod_struct aj h;intro i ft off e;rw [<- RG,List.getElem?_map] at e;cases aE:fs.toList[i]? with
 | none=>rw [aE] at e;cases e
 | some f=>
  rw [aE] at e;simp only [Option.map_some,Option.some.injEq,Prod.mk.injEq] at e;obtain ⟨rfl,rfl⟩:=e;have hi:i<xs.length:=by rw [hlen];simpa using (List.getElem?_eq_some_iff.1 aE).1
  have:=aP i f (by simpa using aE);rw [List.getElem?_eq_getElem hi] at this;exact ⟨n,_,this⟩
theorem vu(h:DataW.trod enc Tryz.prog W 0 sp held fuel 3 cs=some x):∃n,cs=[b4 n]:=by
 obtain ⟨n,e,_⟩:=DataW.trod_int Tryz.underlying3 h;exact ⟨n,e⟩
theorem asm(h:DataW.trod enc Tryz.prog W 0 sp held fuel 9 cs=some x):∃l,cs=[aW l]:=by
 obtain ⟨s,e,_⟩:=DataW.trod_string Tryz.underlying9 h;exact ⟨s.data.toList,e⟩
theorem apv(h:DataW.trod enc Tryz.prog W 0 sp held fuel 44 cs=some x):∃v l,cs=[v]/\ju (whole W) v l:=by
 obtain ⟨v,rows,n,rfl,hs,al⟩:=yY Tryz.underlying44 c3 (by decide) h;obtain ⟨l,rfl⟩:=B6 (f:=fun i=>[b4 i]) fun r aE=>let ⟨y,_,ax⟩:=al r aE;vu ax;exact ⟨v,l,rfl,hs⟩
theorem amW(h:DataW.trod enc Tryz.prog W 0 sp held fuel 47 cs=some x):∃v l,cs=[v]/\pr (whole W) v l:=by
 obtain ⟨v,rows,n,rfl,hs,al⟩:=yY Tryz.underlying47 ayK (by decide) h;obtain ⟨l,rfl⟩:=B6 (f:=fun p:Int×Int=>[b4 p.1,b4 p.2]) fun r aE=>by
  obtain ⟨y,af,ax⟩:=al r aE;have aP:=zi (L:=[(3,0),(3,1)]) Tryz.underlying63 rfl ax
  match r,af with
  | [a,b],_=>
   obtain ⟨_,_,f0⟩:=aP 0 _ _ rfl;obtain ⟨_,_,f1⟩:=aP 1 _ _ rfl;simp only [c3,List.drop_zero,List.drop_succ_cons,List.take_succ_cons,List.take_zero] at f0 f1;obtain ⟨i,e0⟩:=vu f0;obtain ⟨j,e1⟩:=vu f1;simp only [List.cons.injEq,and_true] at e0 e1;exact ⟨(i,j),by rw [e0,e1]⟩
 exact ⟨v,l,rfl,hs⟩
theorem ajP(h:DataW.trod enc Tryz.prog W 0 sp held fuel 22 cs=some x):∃v l,cs=[v]/\zg (whole W) v l:=by
 obtain ⟨v,rows,n,rfl,hs,al⟩:=yY Tryz.underlying22 ayG (by decide) h;obtain ⟨vs,l,rfl,aA⟩:=MF (R:=ju (whole W)) fun r aE=>by
  obtain ⟨y,af,ax⟩:=al r aE;have aP:=zi (L:=[(44,0)]) Tryz.underlying46 rfl ax
  match r,af with
  | [a],_=>
   obtain ⟨_,_,f0⟩:=aP 0 _ _ rfl;simp only [ayF,List.drop_zero,List.take_succ_cons,List.take_zero] at f0;obtain ⟨v,l,e,q⟩:=apv f0;exact ⟨v,l,e,q⟩
 exact ⟨v,l,rfl,vs,hs,aA⟩
theorem apw(h:DataW.trod enc Tryz.prog W 0 sp held fuel 23 cs=some x):∃v l,cs=[v]/\zK (whole W) v l:=by
 obtain ⟨v,rows,n,rfl,hs,al⟩:=yY Tryz.underlying23 c49 (by decide) h;obtain ⟨vs,l,rfl,aA⟩:=MF (R:=pr (whole W)) fun r aE=>by
  obtain ⟨y,af,ax⟩:=al r aE;have aP:=zi (L:=[(47,0)]) Tryz.underlying49 rfl ax
  match r,af with
  | [a],_=>
   obtain ⟨_,_,f0⟩:=aP 0 _ _ rfl;simp only [ayH,List.drop_zero,List.take_succ_cons,List.take_zero] at f0;obtain ⟨v,l,e,q⟩:=amW f0;exact ⟨v,l,e,q⟩
 exact ⟨v,l,rfl,vs,hs,aA⟩
theorem XW{fs:Array Field}{t:TypeId}(aj:Tryz.prog.underlying t=some (.struct fs))(RG:fs.toList.map (fun f=>(f.type,f.offset))=[(9,0),(3,1),(3,2),(3,3)])(af:cs.length=4)(h:DataW.trod enc Tryz.prog W 0 sp held fuel t cs=some x):
  ∃l a b c,cs=[aW l,b4 a,b4 b,b4 c]:=by
 have key:=zi aj RG h
 match cs,af with
 | [a,b,c,d],_=>
  obtain ⟨_,_,f0⟩:=key 0 _ _ rfl;obtain ⟨_,_,f1⟩:=key 1 _ _ rfl;obtain ⟨_,_,f2⟩:=key 2 _ _ rfl;obtain ⟨_,_,f3⟩:=key 3 _ _ rfl;simp only [c3,ox,List.drop_zero,List.drop_succ_cons,List.take_succ_cons,List.take_zero] at f0 f1 f2 f3;obtain ⟨l,e0⟩:=asm f0;obtain ⟨i,e1⟩:=vu f1;obtain ⟨j,e2⟩:=vu f2;obtain ⟨k,e3⟩:=vu f3;simp only [List.cons.injEq,and_true] at e0 e1 e2 e3;exact ⟨l,i,j,k,by rw [e0,e1,e2,e3]⟩
theorem ajQ(h:DataW.trod enc Tryz.prog W 0 sp held fuel 26 cs=some x):∃v l,cs=[v]/\KU (whole W) v l:=by
 obtain ⟨v,rows,n,rfl,hs,al⟩:=yY Tryz.underlying26 ayI (by decide) h;obtain ⟨l,rfl⟩:=B6 (f:=fun s:iB=>[aW s.name,b4 s.dQ,b4 s.size,b4 s.iG]) fun r aE=>by
  obtain ⟨y,af,ax⟩:=al r aE;obtain ⟨l,a,b,c,e⟩:=XW Tryz.underlying51 rfl af ax;exact ⟨⟨l,a,b,c⟩,e⟩
 exact ⟨v,l,rfl,hs⟩
theorem agX(h:DataW.trod enc Tryz.prog W 0 sp held fuel 27 cs=some x):∃v l,cs=[v]/\Kr (whole W) v l:=by
 obtain ⟨v,rows,n,rfl,hs,al⟩:=yY Tryz.underlying27 ayJ (by decide) h;obtain ⟨l,rfl⟩:=B6 (f:=fun s:je=>[aW s.name,b4 s.size,b4 s.gM,b4 s.dQ]) fun r aE=>by
  obtain ⟨y,af,ax⟩:=al r aE;obtain ⟨l,a,b,c,e⟩:=XW Tryz.underlying53 rfl af ax;exact ⟨⟨l,a,b,c⟩,e⟩
 exact ⟨v,l,rfl,hs⟩
theorem apx{r:Reach}{b0:Nat}{v:Value}{d:DataW H}{bF:List MemPlace}(vM:Value.okWide Tryz.prog W r b0 25 v)(h:DataW.Trod enc Tryz.prog W 0 sp held 25 v d bF):∃x,mh (whole W) v x:=by
 obtain ⟨cs,rfl,aH⟩:=okWide_struct Tryz.underlying25 vM;rw [ayB] at aH;obtain ⟨fuel,h⟩:=h;have aP:=zi (L:=[(22,0),(23,1),(3,2),(3,3)]) Tryz.underlying25 rfl h;obtain ⟨_,_,f0⟩:=aP 0 _ _ rfl;obtain ⟨_,_,f1⟩:=aP 1 _ _ rfl;obtain ⟨_,_,f2⟩:=aP 2 _ _ rfl;obtain ⟨_,_,f3⟩:=aP 3 _ _ rfl;obtain ⟨u2⟩:=cs
 match u2,aH with
 | [a,b,c,d],_=>
  simp only [Value.cells,c3,ayz,ayA,List.drop_zero,List.drop_succ_cons,List.take_succ_cons,List.take_zero] at f0 f1 f2 f3;obtain ⟨v1,fg,e0,fA⟩:=ajP f0;obtain ⟨v2,l3,e1,an⟩:=apw f1;obtain ⟨i,e2⟩:=vu f2;obtain ⟨j,e3⟩:=vu f3;simp only [List.cons.injEq,and_true] at e0 e1 e2 e3;subst e0 e1 e2 e3;exact ⟨⟨fg,l3,i,j⟩,_,_,rfl,fA,an⟩
theorem ajR{r:Reach}{b0:Nat}{v:Value}{d:DataW H}{bF:List MemPlace}(vM:Value.okWide Tryz.prog W r b0 29 v)(h:DataW.Trod enc Tryz.prog W 0 sp held 29 v d bF):∃x,lG (whole W) v x:=by
 obtain ⟨cs,rfl,aH⟩:=okWide_struct Tryz.underlying29 vM;rw [ayE] at aH;obtain ⟨fuel,h⟩:=h;have aP:=zi (L:=[(26,0),(27,1)]) Tryz.underlying29 rfl h;obtain ⟨_,_,f0⟩:=aP 0 _ _ rfl;obtain ⟨_,_,f1⟩:=aP 1 _ _ rfl;obtain ⟨u2⟩:=cs
 match u2,aH with
 | [a,b],_=>
  simp only [Value.cells,ayC,ayD,List.drop_zero,List.drop_succ_cons,List.take_succ_cons,List.take_zero] at f0 f1;obtain ⟨v1,fg,e0,fA⟩:=ajQ f0;obtain ⟨v2,l3,e1,an⟩:=agX f1;simp only [List.cons.injEq,and_true] at e0 e1;subst e0 e1;exact ⟨⟨fg,l3⟩,_,_,rfl,fA,an⟩
end
end
section
open Go.ChangeShapes Go.WideShapes Go.Proofs.YthgephlghkjiaaaGreatDoor
theorem auG:((begin Tryz.prog (fun _ _=>0) default).world.heap[0]?).bind Obj.row? =some (#[.nilFunc,.nilFunc,.nilFunc],145):=by kernel_rfl
theorem auH:((begin Tryz.prog (fun _ _=>0) default).world.heap[1]?).bind Obj.row? =some (#[.nilFunc,.nilFunc],147):=by kernel_rfl
theorem auI:((begin Tryz.prog (fun _ _=>0) default).world.heap[4]?).bind Obj.row? =some (Array.replicate 20 (.int .u64 0),297):=by kernel_rfl
theorem auJ:((begin Tryz.prog (fun _ _=>0) default).world.heap[5]?).bind Obj.row? =some (#[.int .i64 0],3):=by kernel_rfl
theorem Ht:Tryz.prog.globals.size=12:=by kernel_rfl
theorem ab4:Tryz.prog.globalNamed "nock/butt.bossChecks" =some 0:=by kernel_rfl
theorem ab5:Tryz.prog.globalNamed "nock/butt.groundChecks" =some 1:=by kernel_rfl
theorem ab6:Tryz.prog.globalNamed "internal/strconv.uint64pow10" =some 4:=by kernel_rfl
theorem ayL:(Tryz.prog.globals[0]?).map (·.type)=some 145:=by kernel_rfl
theorem ayM:(Tryz.prog.globals[1]?).map (·.type)=some 147:=by kernel_rfl
theorem ayN:(Tryz.prog.globals[4]?).map (·.type)=some 297:=by kernel_rfl
theorem auK:Tryz.prog.cellsOf 144=1:=by kernel_rfl
theorem auL:Tryz.prog.cellsOf 146=1:=by kernel_rfl
theorem auM:Tryz.prog.buildable 3=true:=by kernel_rfl
theorem ayO:Tryz.prog.cellTypes Tryz.prog.depth 3=some [3]:=by kernel_rfl
theorem auN:∃e,Tryz.prog.underlying 297=some (.array 20 e)/\Tryz.prog.cellsOf e=1/\Tryz.prog.underlying e=some (.int .u64):=⟨206,by kernel_rfl,by kernel_rfl,by kernel_rfl⟩
theorem O3{H:Type}{enc:TypeId×Value->H}{P:Program}{W:World}{sp:Nat->Bool}{held:Bool}{fuel:Nat}{t e:TypeId}{cs:List Value}{n:Nat}{ds:List (DataW H)}{p:List MemPlace}
  (aj:P.underlying t=some (.array n e)) (hc:P.cellsOf e=1) (af:cs.length=n) (h:DataW.trod enc P W 0 sp held fuel t cs=some (.agg ds,p)):
  ∀(i:Nat) d,ds[i]? =some d->∃v m q,cs[i]? =some v/\DataW.trod enc P W 0 sp held m e [v]=some (d,q):=by
 obtain ⟨xs,m,_,ex,_,QJ,Jk⟩:=DataW.trod_array aj h;intro i d hd;have e1:ds=xs.map (·.1):=(DataW.agg.inj (Prod.mk.inj ex).1);rw [e1,List.getElem?_map] at hd;cases aa:xs[i]? with
 | none=>rw [aa] at hd;cases hd
 | some y=>
  rw [aa] at hd;have hi:i<n:=by rw [<- QJ];exact (List.getElem?_eq_some_iff.1 aa).1
  have:=Jk i hi;rw [hc,Nat.mul_one,aa] at this;have AI:i<cs.length:=by omega
  have e2:(cs.drop i).take 1=[cs[i]]:=by rw [List.drop_eq_getElem_cons AI];rfl
  rw [e2] at this;cases hd;exact ⟨cs[i],m,y.2,List.getElem?_eq_getElem AI,this⟩
variable{W:World}
theorem K2{n:String}{g:Nat}{t:TypeId}{cs kU:Array Value}(ao:Tryz.prog.globalNamed n=some g)(hw:W.heap[g]? =some (.cells cs t))(aI:W.var? Tryz.prog n=some kU):kU=cs:=by
 unfold World.var? at aI;rw [ao,Option.bind_some,hw] at aI;exact (Option.some.inj aI).symm
theorem agY(hs:W.ShapedOpen Tryz.prog)(af:laidMetH Tryz.prog Rows.buttBackRow.laid W):vL (whole W)/\oe (whole W)/\oQ (whole W):=by
 obtain ⟨k0,w0,z0,_⟩:=hs.1 0 _ _ (by rw [Ht];decide) auG;obtain ⟨k1,w1,hr,_⟩:=hs.1 1 _ _ (by rw [Ht];decide) auH;obtain ⟨e8,w4,z4,_⟩:=hs.1 4 _ _ (by rw [Ht];decide) auI;obtain ⟨A9,rT,z5,rP⟩:=hs.1 5 _ _ (by rw [Ht];decide) auJ;refine ⟨⟨⟨true,?_⟩,⟨true,?_⟩⟩,?_,?_⟩
 ·obtain ⟨g,t,cs,fuel,p,aG,aj,aI,hd⟩:=af.funcs (n:= "nock/butt.bossChecks") (d:=.agg [.iface "func" (.lit (.string [40,110,111,99,107,47,98,117,116,116,46,98,111,115,115,41,46,108,97,121,101,114,115])),.iface "func" (.lit (.string [40,110,111,99,107,47,98,117,116,116,46,98,111,115,115,41,46,115,101,115,115,105,111,110,115])),.iface "func" (.lit (.string [40,110,111,99,107,47,98,117,116,116,46,98,111,115,115,41,46,110,117,109,98,101,114,115]))])
   (by simp only [Rows.buttBackRow,List.mem_cons,Rows.laid_nock_butt_bossChecks];simp)
  obtain rfl:=Option.some.inj (ab4.symm.trans aG);obtain rfl:=Option.some.inj (ayL.symm.trans aj);obtain rfl:=K2 ab4 w0 aI;have el:=O3 Tryz.underlying145 auK (by simpa using z0) hd;obtain ⟨v0,_,_,e0,t0⟩:=el 0 _ rfl;obtain ⟨v1,_,_,e1,t1⟩:=el 1 _ rfl;obtain ⟨v2,_,_,e2,t2⟩:=el 2 _ rfl;obtain rfl:=func_of_trod (f0:=275) Tryz.underlying144 (by kernel_rfl) t0;obtain rfl:=func_of_trod (f0:=276) Tryz.underlying144 (by kernel_rfl) t1;obtain rfl:=func_of_trod (f0:=277) Tryz.underlying144 (by kernel_rfl) t2;obtain ⟨u2⟩:=cs
  match u2,z0 with
  | [a,b,c],_=>
   simp at e0 e1 e2;subst e0 e1 e2;simp [whole,w0,ea]
 ·obtain ⟨g,t,cs,fuel,p,aG,aj,aI,hd⟩:=af.funcs (n:= "nock/butt.groundChecks") (d:=.agg [.iface "func" (.lit (.string [40,110,111,99,107,47,98,117,116,116,46,103,114,111,117,110,100,41,46,115,116,97,110,100,115])),.iface "func" (.lit (.string [40,110,111,99,107,47,98,117,116,116,46,103,114,111,117,110,100,41,46,97,114,99,104,101,114,115]))])
   (by simp only [Rows.buttBackRow,List.mem_cons,Rows.laid_nock_butt_groundChecks];simp)
  obtain rfl:=Option.some.inj (ab5.symm.trans aG);obtain rfl:=Option.some.inj (ayM.symm.trans aj);obtain rfl:=K2 ab5 w1 aI;have el:=O3 Tryz.underlying147 auL (by simpa using hr) hd;obtain ⟨v0,_,_,e0,t0⟩:=el 0 _ rfl;obtain ⟨v1,_,_,e1,t1⟩:=el 1 _ rfl;obtain rfl:=func_of_trod (f0:=289) Tryz.underlying146 (by kernel_rfl) t0;obtain rfl:=func_of_trod (f0:=250) Tryz.underlying146 (by kernel_rfl) t1;obtain ⟨u2⟩:=cs
  match u2,hr with
  | [a,b],_=>
   simp at e0 e1;subst e0 e1;simp [whole,w1,ea]
 ·obtain ⟨g,t,cs,fuel,p,aG,aj,aI,hd⟩:=Lib.laidMet.reads (laidMetH_iff.1 af).1 (n:= "internal/strconv.uint64pow10") (d:=Rows.laid_internal_strconv_uint64pow10) (List.mem_filter.2 ⟨by simp only [Rows.buttBackRow,List.mem_cons];simp,by kernel_rfl⟩);obtain rfl:=Option.some.inj (ab6.symm.trans aG);obtain rfl:=Option.some.inj (ayN.symm.trans aj);obtain rfl:=K2 ab6 w4 aI;obtain ⟨e,gX,fi,jk⟩:=auN;have el:=O3 gX fi (by simpa using z4) hd;refine ⟨cs,297,(0,0),true,by simp [whole,w4],fun d ayP=> ?_⟩;have key:∀n:Nat,(((Rows.laid_internal_strconv_uint64pow10:DataW Unit):DataW Unit)=Rows.laid_internal_strconv_uint64pow10)->∀z:Int,(match (Rows.laid_internal_strconv_uint64pow10:DataW Unit) with|.agg ds=>ds[n]? =some (.lit (.int .u64 z))|_=>False)->cs[n]? =some (.int .u64 z):=fun n _ z aH=>by
   obtain ⟨v,_,_,e0,t0⟩:=el n _ aH;obtain ⟨m,e1,e2,_⟩:=DataW.trod_int jk t0;simp only [Prod.mk.injEq,DataW.lit.injEq,Lit.int.injEq,true_and] at e2;simp only [List.cons.injEq,and_true] at e1;rw [e1,<- e2.1] at e0;simpa using e0
  match d,ayP with
  | 0,_=>exact key 0 rfl 1 rfl
  | 1,_=>exact key 1 rfl 10 rfl
  | 2,_=>exact key 2 rfl 100 rfl
  | 3,_=>exact key 3 rfl 1000 rfl
  | 4,_=>exact key 4 rfl 10000 rfl
 ·obtain ⟨dN,e1,_,hc⟩:=rP auM;obtain rfl:=Option.some.inj (ayO.symm.trans e1);obtain ⟨u2⟩:=A9
  match u2,z5 with
  | [a],_=>
   obtain ⟨u,hu,cW⟩:=hc 0 a rfl;simp at hu;subst hu;unfold Cell.ok at cW;rw [Tryz.underlying3] at cW;cases a<;>simp at cW;obtain ⟨rfl,_⟩:=cW;exact ⟨_,3,(0,0),true,by simp [whole,rT];rfl⟩
end
end
end Go.Nk
