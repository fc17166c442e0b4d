/- Part Pbh of the proof of ButtBack: lemmas. -/
import Derived.Test.YthgephlghkjiaaaGreatDoorPbg
set_option maxRecDepth 100000
set_option maxHeartbeats 4000000
set_option linter.all false
namespace Go.Nk
noncomputable section
open Go Go.Conc Go.Proofs
section
open Go.ChangeShapes Go.WideShapes Go.ChangeAt Go.RowKit Go.Proofs.YthgephlghkjiaaaGreatDoor
theorem ag0(os:Os){H:Type}(enc:TypeId×Value->H):
  ∃(w:World) (tape:Tape) (i:Input),w.os=os/\(w.forCall tape i).Shaped Tryz.prog/\i.vars=[]/\Input.okWide Tryz.prog (w.forCall tape i) .any w.heap.size 4 i/\
   ((Rows.buttBackSpec.pre enc Tryz.prog Tryz.f4 [] false (w.forCall tape i).memory i.args/\laidMetH Tryz.prog Rows.buttBackRow.laid (w.forCall tape i).memory)/\sizedMet enc Tryz.prog Tryz.f4 (OpenSpec.ofChange Rows.buttBackSpec) false (w.forCall tape i).memory i.args)/\
   Rows.buttBackRow.assume.holds Tryz.prog (lone (Frame.enter Tryz.prog 4 i.args .normal) [] (w.forCall tape i)):=by
 have cW:Input.okWideB Tryz.prog ((yx os).forCall (fun _ _=>0) ⟨#[],Ad,[]⟩) 4 ⟨#[],Ad,[]⟩=true:=by kernel_rfl
 refine ⟨yx os,fun _ _=>0,⟨#[],Ad,[]⟩,World.layVars_os _ _ _,aeu os,(Input.okWide_of_okWideB (base:=0) cW).1,(Input.okWide_of_okWideB cW).2,⟨⟨ChangeSpec.pre_of_preB (fuel:=8) ?_,amX os⟩,sizedMet_of_sizedB (fuel:=8) ?_⟩,?_⟩
 ·kernel_rfl
 ·kernel_rfl
 ·simp only [Assume.holds];exact ⟨by simp [Rows.buttBackRow,OpenClaim.assume],fun _ _ _ _=>rfl,by simp [Rows.buttBackRow,OpenClaim.assume],by simp [Rows.buttBackRow,OpenClaim.assume],by simp [Rows.buttBackRow,OpenClaim.assume],by simp [Rows.buttBackRow,OpenClaim.assume]⟩
theorem XX{H:Type}{enc:TypeId×Value->H}{W Ek:World}(hb:∀b,b<W.heap.size->Ek.heap[b]? =W.heap[b]?){t:TypeId}{v:Value}{d:DataW H}{p:List MemPlace}(aj:t<Tryz.prog.types.size)(aK:∀x∈p,x.block<W.heap.size)
  (h:DataW.Trod enc Tryz.prog W 0 (fun _=>true) true t v d p):DataW.Trod enc Tryz.prog Ek 0 (fun b=>decide (b<W.heap.size)) true t v d p:=by
 obtain ⟨n,ao⟩:=DataW.Trod.respare (spare':=fun b=>decide (b<W.heap.size)) apy apz aj h fun x aa=>by simpa using aK x aa
 refine ⟨n,DataW.trod_carry n _ _ _ ao fun x aa=> ?_⟩;have bY:=aK x aa;cases x with
 | cell b o=>exact World.cell?_of_block (w:=W) (hb b bY)
 | map b=>exact hb b bY
theorem lifted(os:Os)(started:os.Started)(H:Type)(enc:TypeId×Value->H)(F:Stop.Interp):
  ReturnsInLeavingWide Rows.buttBackRow.assume Tryz.checked os 4 .any (fun w args=>(Rows.buttBackSpec.pre enc Tryz.prog Tryz.f4 [] false w args/\laidMetH Tryz.prog Rows.buttBackRow.laid w)/\sizedMet enc Tryz.prog Tryz.f4 (OpenSpec.ofChange Rows.buttBackSpec) false w args)
   ((OpenSpec.ofChange Rows.buttBackSpec).postWith enc Tryz.prog Tryz.f4 F (outsideKept [.timePasses]) false true false):=by
 refine returnsInLeavingWide_of_good asn started (ag0 os enc) ?_;intro w tape i _ lh _ cW auO _;obtain ⟨_,_,_,ayQ,ZF,_,_,_,_,vM⟩:=cW;obtain rfl:ayQ=Tryz.f4:=Option.some.inj (ZF.symm.trans Tryz.func4);obtain ⟨⟨⟨ds,gs,before,hw,_⟩,YI⟩,_⟩:=auO;have hW:=DataW.Whole.of_heap (w':=w.forCall tape i) (by rfl) hw;have af:laidMetH Tryz.prog Rows.buttBackRow.laid (w.forCall tape i):=YI.of_heap (by rfl);clear hw YI ZF;generalize w.forCall tape i=W at*
 have fc:=hW;obtain ⟨p,q,a8,mE,rfl,_,_⟩:=hW;have RH:DataW.TrodAll enc Tryz.prog W 0 (fun _=>true) true Tryz.f4.params.toList i.args.toList ds p:=a8;have bY:=DataW.TrodAll.lt RH;rw [Tryz.params4] at RH vM;obtain ⟨v,u,d0,d1,p0,fV,lx,rfl,rfl,h0,h1⟩:=trodAll_two RH;rw [lx] at vM fc ⊢;obtain ⟨rfl,rfl⟩:=trodVars_none mE;obtain ⟨x,aa⟩:=apx (vM 0 25 v rfl rfl) h0;obtain ⟨y,ax⟩:=ajR (vM 1 29 u rfl rfl) h1;obtain ⟨t0,t4,t5⟩:=agY lh af;obtain ⟨N,last,o,w',bt,r1,r2,r3,z,e,aK,g1,g2,g3,g4⟩:=amV aa ax t0 t4 t5;refine ⟨N,last,o,w',bt,r1,r2,r3,z,e,postWith_blind (postWith_of_post ?_ aK.2.2.1),g1,g2,g3,g4⟩;obtain ⟨rfl,dF,vN,mT⟩:=aK;have hb:∀b,b<W.heap.size->({w' with os:=W.os}:World).heap[b]? =W.heap[b]? :=fun b bY=>by
  have e:=Array.getElem?_eq_getElem (xs:=W.heap) bY;have:=dF b ⟨W.heap[b],true⟩ (by simp [whole,e]);rw [e];exact this
 refine ⟨_,_,_,[],p0++fV,[],fc,trodAll_mk1 (shut_bool Tryz.underlying4 true),?_,rfl,⟨rfl,mT,fun k hk=> ?_⟩,fun h=>by cases h⟩
 ·exact trodAll_mk2 (XX hb (of_decide_eq_true (by kernel_rfl)) (fun x aa=>bY x (by simp [aa])) h0) (XX hb (of_decide_eq_true (by kernel_rfl)) (fun x aa=>bY x (by simp [aa])) h1)
 ·rw [hb k hk];split<;>simp_all
theorem acY:Rows.ButtBackSaid:=
 OpenClaim.holds_of_wide_leaving_time 4 Tryz.f4 rfl rfl rfl rfl rfl rfl rfl ⟨rfl,rfl,rfl,rfl,rfl⟩ rfl rfl rfl rfl rfl (by kernel_rfl) Tryz.func4 (by kernel_rfl)
  (of_decide_eq_true (by kernel_rfl)) (by unfold Func.isWrapper;first|(rw [if_pos (by decide +kernel)];kernel_rfl)|(rw [if_neg (by decide +kernel)];exact ⟨rfl,rfl⟩))
  (fun os started H enc _ F=>lifted os started H enc F)
end
end
end Go.Nk
