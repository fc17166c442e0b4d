/- Part Pbj of the proof of ButtTexts: lemmas. -/
import Derived.Test.YthgephlghkjiaaaGreatDoorPbi
set_option maxRecDepth 100000
set_option maxHeartbeats 4000000
set_option linter.all false
namespace Go.Nk
noncomputable section
open Go Go.Conc Go.Proofs
open Bool renaming false->q9,true->J
open Go.OpenClaim renaming assume->ayi,holds_of_wide_leaving_time->aDf
open Go.OpenSpec renaming ofChange->aA2
open Go.Proofs.Tryz renaming prog->pv,f3->avj,func3->aAY
section
open Go.ChangeShapes Go.WideShapes Go.ChangeAt Go.RowKit Go.Proofs.YthgephlghkjiaaaGreatDoor
def att(b:Os){H:Type}(enc:TypeId×Value->H):∃(w:World) (a:Tape) (i:Input),w.os=b/\(w.forCall a i).Shaped pv/\i.vars=[]/\Input.okWide pv (w.forCall a i) .any w.heap.size 3 i/\((Rows.buttTextsSpec.pre enc pv avj [] q9 (w.forCall a i).memory i.args/\laidMetH pv Rows.buttTextsRow.laid (w.forCall a i).memory)/\sizedMet enc pv avj (aA2 Rows.buttTextsSpec) q9 (w.forCall a i).memory i.args)/\
   Rows.buttTextsRow.assume.holds pv (lone (Frame.enter pv 3 i.args .normal) [] (w.forCall a i)):=by
 have c:Input.okWideB pv ((w9 b).forCall (λ_ _=>0) ⟨#[],zy,[]⟩) 3 ⟨#[],zy,[]⟩=J:=O
 refine⟨w9 b,λ_ _=>0,⟨#[],zy,[]⟩,World.layVars_os _ _ _,ats b,(Input.okWide_of_okWideB (base:=0) c).1,(Input.okWide_of_okWideB c).2,⟨⟨ChangeSpec.pre_of_preB (fuel:=8) ?_,atr b⟩,sizedMet_of_sizedB (fuel:=8) ?_⟩,?_⟩
 .kernel_rfl
 .kernel_rfl
 .simp only[Assume.holds];exact⟨by simp[Rows.buttTextsRow,ayi],λ_ _ _ _=>rfl,by simp[Rows.buttTextsRow,ayi],by simp[Rows.buttTextsRow,ayi],by simp[Rows.buttTextsRow,ayi],by simp[Rows.buttTextsRow,ayi]⟩
def NY{H:Type}{enc:TypeId×Value->H}{W c:World}(hb:∀b,b<W.heap.size->c.heap[b]? =W.heap[b]?){t:TypeId}{v:Value}{d:DataW H}{p:List MemPlace}(g:t<pv.types.size)(e:∀x∈p,x.block<W.heap.size)
  (h:DataW.Trod enc pv W 0 (λ_=>J) J t v d p):DataW.Trod enc pv c 0 (λb=>decide (b<W.heap.size)) J t v d p:=by
 obtain⟨n,i⟩:=DataW.Trod.respare (spare':=λb=>decide (b<W.heap.size)) atl atm g h λx a=>by simpa using e x a
 refine⟨n,DataW.trod_carry n _ _ _ i λx a=> ?_⟩;have f:=e x a;cases x with
 |cell b o=>exact World.cell?_of_block (w:=W) (hb b f)
 |map b=>exact hb b f
def atu(os:Os)(Q:os.Started)(H:Type)(enc:TypeId×Value->H)(F:Stop.Interp):ReturnsInLeavingWide Rows.buttTextsRow.assume Tryz.checked os 3 .any (λw args=>(Rows.buttTextsSpec.pre enc pv avj [] q9 w args/\laidMetH pv Rows.buttTextsRow.laid w)/\sizedMet enc pv avj (aA2 Rows.buttTextsSpec) q9 w args)
   ((aA2 Rows.buttTextsSpec).postWith enc pv avj F (outsideKept [.timePasses]) q9 J q9):=by
 refine returnsInLeavingWide_of_good atk Q (att os enc) ?_;intro w g i _ gG _ t A _;obtain⟨_,_,_,B,j,_,_,_,_,c⟩:=t;obtain rfl:B=avj:=Option.some.inj (j.symm.trans aAY);obtain⟨⟨⟨R,gs,bl,r,_⟩,l⟩,_⟩:=A;have s:=DataW.Whole.of_heap (w':=w.forCall g i) (by rfl) r;have D:laidMetH pv Rows.buttTextsRow.laid (w.forCall g i):=l.of_heap (by rfl);clear r l j;generalize w.forCall g i=W at*
 have m:=s;obtain⟨p,q,aI,E,rfl,_,_⟩:=s;have f:DataW.TrodAll enc pv W 0 (λ_=>J) J avj.params.toList i.args.toList R p:=aI;have d:=DataW.TrodAll.lt f;rw[Tryz.params3]at f c;obtain⟨v,u,bT,iK,dH,d2,S,G,X,I,rfl,rfl,h0,h1,h2⟩:=trodAll_three f;rw[I]at c m ⊢;obtain⟨rfl,rfl⟩:=trodVars_none E;obtain⟨x,a⟩:=asX (c 0 25 v rfl rfl) h0;obtain⟨y,K⟩:=asZ (c 1 29 u rfl rfl) h1;obtain⟨txt,rfl⟩:=asY (c 2 9 bT rfl rfl);obtain⟨⟨t0,fK,ie⟩,jA,cU⟩:=atj gG D;obtain⟨N,af,o,w',L,r1,r2,r3,z,e,n,g1,g2,g3,g4⟩:=asC (txt:=txt) a K t0 fK ie jA cU;refine⟨N,af,o,w',L,r1,r2,r3,z,e,postWith_blind (postWith_of_post ?_ n.2.2.1),g1,g2,g3,g4⟩;obtain⟨rfl,M,bh,P⟩:=n;have hb:∀b,b<W.heap.size->({w' with os:=W.os}:World).heap[b]? =W.heap[b]? :=λb d=>by have e:=Array.getElem?_eq_getElem (xs:=W.heap) d;have:=M b ⟨W.heap[b],J⟩ (by simp[fM,e]);rw[e];exact this
 refine⟨_,_,_,[],S++(G++X),[],m,trodAll_mk1 (shut_bool Tryz.underlying4 J),?_,rfl,⟨rfl,P,λk hk=> ?_⟩,λh=>by cases h⟩
 .exact trodAll_mk3 (NY hb (of_decide_eq_true O) (λx a=>d x (by simp[a])) h0) (NY hb (of_decide_eq_true O) (λx a=>d x (by simp[a])) h1) (NY hb (of_decide_eq_true O) (λx a=>d x (by simp[a])) h2)
 .rw[hb k hk];split<;>simp_all
def atv:Rows.ButtTextsSaid:=aDf 3 avj rfl rfl rfl rfl rfl rfl rfl ⟨rfl,rfl,rfl,rfl,rfl⟩ rfl rfl rfl rfl rfl O aAY O
  (of_decide_eq_true O) (by unfold Func.isWrapper;first|(rw[if_pos (by decide +kernel)];kernel_rfl)|(rw[if_neg (by decide +kernel)];exact⟨rfl,rfl⟩))
  (λa b H enc _ F=>atu a b H enc F)
end
end
end Go.Nk
