/- Part Pap of the proof of ButtBack: lemmas. -/
import Derived.Conc.Own2
import Derived.Test.YthgephlghkjiaaaGreatDoorPao
set_option maxRecDepth 100000
set_option maxHeartbeats 4000000
set_option linter.all false
namespace Go.Nk
noncomputable section
open Go Go.Conc Go.Proofs
section
open Go.ConcM (OsLater muBlock)
open Go.ConcR (wgBlock WgAt stA smA)
theorem aob:gy Tryz.prog 135 Tryz.f135 (Extern.Race.marked .read):=⟨Tryz.func135,by kernel_rfl,by kernel_rfl,by kernel_rfl,by kernel_rfl⟩
theorem aoc:gy Tryz.prog 151 Tryz.f151 (Extern.Race.marked .write):=⟨Tryz.func151,by kernel_rfl,by kernel_rfl,by kernel_rfl,by kernel_rfl⟩
theorem aod:gy Tryz.prog 152 Tryz.f152 Extern.Sync.semacquire:=⟨Tryz.func152,by kernel_rfl,by kernel_rfl,by kernel_rfl,by kernel_rfl⟩
theorem aoe:gy Tryz.prog 175 Tryz.f175 (Extern.Atomic.casT (.int .u64)):=⟨Tryz.func175,by kernel_rfl,by kernel_rfl,by kernel_rfl,by kernel_rfl⟩
theorem Y1:Tryz.prog.underlying 259=some (.pointer 199):=by kernel_rfl
theorem Y2:(Tryz.prog.info? 199).map (fun i=>decide (i.size=0))=some false:=by kernel_rfl
abbrev SM(tM tW:TypeId)(os0:eB)(Post:Value->World->Prop):Sys ay:=(fC Tryz.prog tM tW os0 Post).jC
section
variable{tM tW:TypeId}{os0:eB}{Post:Value->World->Prop}{s γ:ay}{h:ab}{K:ay->ab->Value->Prop}{wg mu k:Nat}{ms:jF}
theorem xp{γ:ay}(W:γ.oo){es:Array Event}:(γ.gp γ.ms γ.wv γ.wr γ.ws es).oo:=⟨W.v,W.st⟩
theorem x5{γ:ay}{A:Prop}(h:γ.ms≠.reg):¬γ.waits 0\/A:=by left;unfold ay.waits;rw [if_pos rfl];exact fun hh=>h hh.1
theorem awn{γ:ay}{es:Array Event}:¬γ.waits 0\/(γ.gp γ.ms γ.wv γ.wr γ.ws es).waits 0:=by
 by_cases h:γ.waits 0
 ·right;unfold ay.waits at h ⊢;rw [if_pos rfl] at h ⊢;exact h
 ·exact .inl h
structure gK(a b:ay):Prop where
 aR:b.aR=a.aR
 cap:b.cap=a.cap
 n0:b.n0=a.n0
 mu:b.mu=a.mu
 wg:b.wg=a.wg
 on:b.on=a.on
 I:b.I=a.I
 full:b.full=a.full
 sh:b.sh=a.sh
 b0:b.b0=a.b0
theorem gK.refl(a:ay):gK a a:=⟨rfl,rfl,rfl,rfl,rfl,rfl,rfl,rfl,rfl,rfl⟩
theorem gK.trans{a b c:ay}(h:gK a b)(k:gK b c):gK a c:=⟨k.aR.trans h.aR,k.cap.trans h.cap,k.n0.trans h.n0,k.mu.trans h.mu,k.wg.trans h.wg,k.on.trans h.on,k.I.trans h.I,k.full.trans h.full,k.sh.trans h.sh,k.b0.trans h.b0⟩
theorem gK.rel{a b:ay}(r:ay.lS 0 a b):gK a b:=⟨(r.z rfl).2.2.1,r.cap,r.n0,r.mu,r.wg,r.on,r.I,r.full,(r.z rfl).2.1,r.b0⟩
theorem gK.gp{a b:ay}(r:gK a b){ms:jF}{wv wr ws:Nat}{es:Array Event}:gK a (b.gp ms wv wr ws es):=⟨r.aR,r.cap,r.n0,r.mu,r.wg,r.on,r.I,r.full,r.sh,r.b0⟩
theorem Nv{f:FuncId}{fn:Func}{m:Mark}(hm:m=.disable\/m=.enable)(X:gy Tryz.prog f fn (fun _=>do mark m;pure Extern.Race.none_))(M:gJ s wg mu ms k)(al:ms≠.reg)
  (kk:∀γ,gK s γ->γ.wv<=s.wv->gJ γ wg mu ms (deafBehind k #[⟨.mark m,false,true⟩])->K γ h (.tuple #[])):eX Tryz.prog true (SM tM tW os0 Post) f #[] s h (K:=⟨K⟩):=by
 refine wY X M fun γ w R M2 W hW=>.inr ?_;refine ⟨.tuple #[],w,#[⟨.mark m,false,true⟩],γ.ms,γ.wv,γ.wr,γ.ws,by simp [Extern.Race.none_],by simp,fun y ax=> ?_,⟨rfl,fun _ _=>rfl,hW,rfl,rfl⟩,fun e he=> ?_,xp W,x5 (by rw [M2.ms];exact al),fun gz=>kk _ (gK.rel R).gp ((R.z rfl).2.2.2.1) (by rw [M2.ms] at gz ⊢;exact gz)⟩
 ·simp at ax;subst ax;rcases hm with rfl|rfl<;>exact ⟨rfl,fun g h=>by cases h⟩
 ·simp at he;subst he;rcases hm with rfl|rfl
  ·exact .inl (.inl rfl)
  ·exact .inl (.inr (.inl rfl))
theorem aqn(M:gJ s wg mu (.eR false) 0)
  (kk:∀γ,gK s γ->gJ γ wg mu .loop 1->K γ h (.tuple #[])):eX Tryz.prog true (SM tM tW os0 Post) 128 #[] s h (K:=⟨K⟩):=by
 refine wY se M fun γ w R M2 W hW=>.inr ?_;have st:=W.st;have aI:=W.v;rw [M2.ms] at st aI;simp at st aI;refine ⟨.tuple #[],w,#[⟨.mark .disable,false,true⟩],.loop,γ.wv,γ.wr,γ.ws,by simp [Extern.Race.none_],by simp,fun y ax=> ?_,⟨rfl,fun _ _=>rfl,hW,rfl,rfl⟩,fun e he=> ?_,⟨?_,?_⟩,x5 (by rw [M2.ms];simp),fun gz=>kk _ (gK.rel R).gp (by simpa [deafBehind] using gz)⟩
 ·simp at ax;subst ax;exact ⟨rfl,fun g h=>by cases h⟩
 ·simp at he;subst he;exact .inl (.inl rfl)
 ·show γ.wv=γ.dI ay.ic+(if jF.loop=jF.eR true then 1 else 0);simp;omega
 ·show γ.wr=0/\γ.ws=0/\γ.dI ay.gQ=0/\γ.dI ay.hy=0;exact st
theorem Xq{f:FuncId}{fn:Func}{mk:Addr->Mark}(hm:mk=.read\/mk=.write)(X:gy Tryz.prog f fn (Extern.Race.marked mk))(M:gJ s wg mu ms k){x:Array Value}{o:Nat}{r:List Value}(aa:x=⟨.pointer (some ⟨wg,o,none⟩)::r⟩)
  (kk:∀γ,gK s γ->gJ γ wg mu ms k->K γ h (.tuple #[])):eX Tryz.prog true (SM tM tW os0 Post) f x s h (K:=⟨K⟩):=by
 subst aa;refine wY X M fun γ w R M2 W hW=>.inr ?_;refine ⟨.tuple #[],w,#[⟨.mark (mk ⟨wg,o,none⟩),false,true⟩],γ.ms,γ.wv,γ.wr,γ.ws,by simp [Extern.Race.marked,Extern.Race.at_,Extern.Race.none_],by simp [Extern.Race.marked,Extern.Race.at_],fun y ax=> ?_,⟨rfl,fun _ _=>rfl,hW,rfl,rfl⟩,fun e he=> ?_,xp W,awn,fun gz=>kk _ (gK.rel R).gp ?_⟩
 ·simp at ax;subst ax;rcases hm with rfl|rfl<;>exact ⟨rfl,fun g h=>by cases h⟩
 ·simp at he;subst he;rcases hm with rfl|rfl
  ·exact .inr ⟨_,rfl,.inl rfl⟩
  ·exact .inr ⟨_,rfl,.inr rfl⟩
 ·have:deafBehind k #[⟨.mark (mk ⟨wg,o,none⟩),false,true⟩]=k:=by rcases hm with rfl|rfl<;>rfl
  rw [this] at gz;rw [M2.ms] at gz ⊢;exact gz
theorem aqo{main:Bool}{S:Sys ay}(kk:K s h (.bool false)):eX Tryz.prog main S 130 #[] s h (K:=⟨K⟩):=
 .inr (.inl ⟨Tryz.f130,_,zF.f,zF.name,zF.body,zF.next,zF.find,by simp only [au,bh];exact kk⟩)
theorem aqp(M:gJ s wg mu (.eR false) k)(ao:s.aR<=s.n0+1000000)
  (kk:∀γ (v:Nat),gK s γ->gJ γ wg mu (.eR true) k->1<=v->v<=1000001->K γ h (.int .u64 ((4294967296*v:Nat):Int))):
  eX Tryz.prog true (SM tM tW os0 Post) 168 #[.pointer (some ⟨wg,0,none⟩),.int .u64 4294967296] s h (K:=⟨K⟩):=by
 refine wY Xo M fun γ w R M2 W hW=>.inr ?_;have st:=W.st;have aI:=W.v;rw [M2.ms] at st aI;simp at st aI;obtain ⟨an,az,aB,aX⟩:=st;have hb:=KQ γ (f:=ay.ic) (by intro d;cases d<;>simp [ay.ic]);have iz:=(R.z rfl).2.2.1;have hj:=R.n0;have hc:w.cell? ⟨wg,0,none⟩=some (.int .u64 ((4294967296*γ.wv+γ.wr:Nat):Int)):=hW.cellSt;have aH:w.frozen? ⟨wg,0,none⟩=false:=hW.thaw 0;have Cd:IntKind.u64.wrap (((4294967296*γ.wv+γ.wr:Nat):Int)+4294967296)=((4294967296*(γ.wv+1):Nat):Int):=by
  simp only [IntKind.wrap,IntKind.bits,IntKind.signed,Bool.false_and];simp;omega
 have A:=aside_setCell w (stA wg) (.int .u64 ((4294967296*(γ.wv+1):Nat):Int));have hd:deafBehind k #[⟨.cell ⟨wg,0,none⟩,false,true⟩,⟨.cell ⟨wg,0,none⟩,true,true⟩]=k:=by simp [deafBehind]
 refine ⟨.int .u64 ((4294967296*(γ.wv+1):Nat):Int),w.setCell (stA wg) (.int .u64 ((4294967296*(γ.wv+1):Nat):Int)),#[⟨.cell ⟨wg,0,none⟩,false,true⟩,⟨.cell ⟨wg,0,none⟩,true,true⟩],.eR true,γ.wv+1,γ.wr,γ.ws,?_,?_,sync_rw _,⟨A.size,fun b hb=>A.block b hb,?_,A.os,A.output⟩,fun e he=> ?_,⟨?_,?_⟩,x5 (by rw [M2.ms];simp),fun gz=>kk _ (γ.wv+1) (gK.rel R).gp (by rw [hd] at gz;exact gz) (by omega) (by omega)⟩
 ·rw [<- Cd];exact run_add_entry hc aH
 ·exact (events_add_entry hc aH _).trans rfl
 ·have:=hW.setSt ((4294967296*(γ.wv+1):Nat):Int);rw [an];exact this
 ·simp at he;rcases he with rfl|rfl<;>exact .inl (.inr (.inr ⟨0,_,rfl⟩))
 ·show γ.wv+1=γ.dI ay.ic+(if jF.eR true=jF.eR true then 1 else 0);simp;omega
 ·show γ.wr=0/\γ.ws=0/\γ.dI ay.gQ=0/\γ.dI ay.hy=0;exact ⟨an,az,aB,aX⟩
theorem aof(M:gJ s wg mu ms k)(al:ms≠.reg)
  (kk:∀γ,gK s γ->gJ γ wg mu ms k->γ.oo->γ.wv<=s.wv->K γ h (.int .u64 ((4294967296*γ.wv+γ.wr:Nat):Int))):
  eX Tryz.prog true (SM tM tW os0 Post) 169 #[.pointer (some ⟨wg,0,none⟩)] s h (K:=⟨K⟩):=by
 refine wY Xp M fun γ w R M2 W hW=>.inr ?_;have hc:w.cell? ⟨wg,0,none⟩=some (.int .u64 ((4294967296*γ.wv+γ.wr:Nat):Int)):=hW.cellSt;have hd:deafBehind k #[⟨.cell ⟨wg,0,none⟩,false,true⟩]=k:=by simp [deafBehind]
 refine ⟨.int .u64 ((4294967296*γ.wv+γ.wr:Nat):Int),w,#[⟨.cell ⟨wg,0,none⟩,false,true⟩],γ.ms,γ.wv,γ.wr,γ.ws,?_,?_,sync_r _,⟨rfl,fun _ _=>rfl,hW,rfl,rfl⟩,fun e he=> ?_,xp W,x5 (by rw [M2.ms];exact al),fun gz=>kk (γ.gp γ.ms γ.wv γ.wr γ.ws #[⟨.cell ⟨wg,0,none⟩,false,true⟩]) (gK.rel R).gp (by rw [hd,M2.ms] at gz;rw [M2.ms];exact gz) (xp W) ((R.z rfl).2.2.2.1)⟩
 ·change Sem.run Tryz.prog (do Extern.Atomic.read (.int .u64) (<- asAddr (.pointer (some ⟨wg,0,none⟩)))) w=_;simp [Extern.Atomic.read,asAddr,hc,Result.andThen]
 ·change Sem.events Tryz.prog (do Extern.Atomic.read (.int .u64) (<- asAddr (.pointer (some ⟨wg,0,none⟩)))) w _=_;simp [Extern.Atomic.read,asAddr,hc,events_load]
 ·simp at he;subst he;exact .inl (.inr (.inr ⟨0,_,rfl⟩))
theorem aqr{v:Nat}(M:gJ s wg mu .loop k)(aA2:1<=v)
  (hit:∀γ,gK s γ->gJ γ wg mu .reg k->K γ h (.bool true))
  (Co:∀γ,gK s γ->gJ γ wg mu .loop k->γ.wv<=s.wv->γ.wv≠v->K γ h (.bool false)):
  eX Tryz.prog true (SM tM tW os0 Post) 175 #[.pointer (some ⟨wg,0,none⟩),.int .u64 ((4294967296*v:Nat):Int),.int .u64 ((4294967296*v+1:Nat):Int)] s h (K:=⟨K⟩):=by
 refine wY aoe M fun γ w R M2 W hW=>.inr ?_;have st:=W.st;have aI:=W.v;rw [M2.ms] at st aI;simp at st aI;obtain ⟨an,az,aB,aX⟩:=st;have hc:w.cell? ⟨wg,0,none⟩=some (.int .u64 ((4294967296*γ.wv+γ.wr:Nat):Int)):=hW.cellSt;have aH:w.frozen? ⟨wg,0,none⟩=false:=hW.thaw 0;rw [an] at hc;have hd:deafBehind k #[⟨.cell ⟨wg,0,none⟩,false,true⟩,⟨.cell ⟨wg,0,none⟩,true,true⟩]=k:=by simp [deafBehind]
 have Ql:deafBehind k #[⟨.cell ⟨wg,0,none⟩,false,true⟩]=k:=by simp [deafBehind]
 by_cases he:γ.wv=v
 ·have A:=aside_setCell w (stA wg) (.int .u64 ((4294967296*v+1:Nat):Int));rw [he] at hc;refine ⟨.bool true,w.setCell (stA wg) (.int .u64 ((4294967296*v+1:Nat):Int)),#[⟨.cell ⟨wg,0,none⟩,false,true⟩,⟨.cell ⟨wg,0,none⟩,true,true⟩],.reg,γ.wv,1,γ.ws,?_,?_,sync_rw _,⟨A.size,fun b hb=>A.block b hb,?_,A.os,A.output⟩,fun e he=> ?_,⟨?_,?_⟩,x5 (by rw [M2.ms];simp),fun gz=>hit _ (gK.rel R).gp (by rw [hd] at gz;exact gz)⟩
  ·rw [casT_eq];exact run_cas_hit_entry hc aH
  ·rw [casT_eq];exact (events_cas_hit_entry hc aH _).trans rfl
  ·rw [he];exact hW.setSt _
  ·simp at he;rcases he with rfl|rfl<;>exact .inl (.inr (.inr ⟨0,_,rfl⟩))
  ·show γ.wv=γ.dI ay.ic+(if jF.reg=jF.eR true then 1 else 0);simp;omega
  ·left;exact ⟨rfl,az,aX,.inl ⟨by show 0<γ.wv;omega,aB⟩⟩
 ·refine ⟨.bool false,w,#[⟨.cell ⟨wg,0,none⟩,false,true⟩],γ.ms,γ.wv,γ.wr,γ.ws,?_,?_,sync_r _,⟨rfl,fun _ _=>rfl,hW,rfl,rfl⟩,fun e he=> ?_,xp W,x5 (by rw [M2.ms];simp),fun gz=>Co (γ.gp γ.ms γ.wv γ.wr γ.ws #[⟨.cell ⟨wg,0,none⟩,false,true⟩]) (gK.rel R).gp (by rw [Ql,M2.ms] at gz;rw [M2.ms];exact gz) ((R.z rfl).2.2.2.1) he⟩
  ·rw [casT_eq];exact run_cas_miss_entry hc aH (by omega)
  ·rw [casT_eq];exact (events_cas_miss_entry hc aH (by omega) _).trans rfl
  ·simp at he;subst he;exact .inl (.inr (.inr ⟨0,_,rfl⟩))
theorem aqs(M:gJ s wg mu .reg k){x:Array Value}{r:List Value}(aa:x=⟨.pointer (some ⟨wg,1,none⟩)::r⟩)
  (kk:∀γ,gK s γ->gJ γ wg mu .mU k->K γ h (.tuple #[])):
  eX Tryz.prog true (SM tM tW os0 Post) 152 x s h (K:=⟨K⟩):=by
 subst aa;refine wY aod M fun γ w R M2 W hW=> ?_;have st:=W.st;have aI:=W.v;rw [M2.ms] at st aI;simp at st aI;by_cases h0:γ.ws=0
 ·left;refine ⟨by unfold ay.waits;rw [if_pos rfl];exact ⟨M2.ms,h0⟩,?_⟩;rw [h0] at hW;have hc:w.cell? ⟨wg,1,none⟩=some (.int .u32 (0:Int)):=hW.cellSm;simp [Extern.Sync.semacquire,Extern.Sync.count,hc]
 ·right;have aE:γ.ws=1/\γ.wr=0/\γ.wv=0/\γ.dI ay.gQ=0/\γ.dI ay.hy=0:=by rcases st with st|st<;>omega
  obtain ⟨an,az,aB,aX,cp⟩:=aE;rw [an] at hW;have hc:w.cell? ⟨wg,1,none⟩=some (.int .u32 (1:Int)):=hW.cellSm;have aH:w.frozen? ⟨wg,1,none⟩=false:=hW.thaw 1;have A:=aside_setCell w (smA wg) (.int .u32 0);have hd:deafBehind k (semEvents ⟨wg,1,none⟩)=k:=by simp [deafBehind,semEvents]
  refine ⟨.tuple #[],w.setCell ⟨wg,1,none⟩ (.int .u32 0),semEvents ⟨wg,1,none⟩,.mU,γ.wv,γ.wr,0,?_,?_,semEvents_sync _,⟨A.size,fun b hb=>A.block b hb,hW.setSm 0,A.os,A.output⟩,fun e he=> ?_,⟨?_,?_⟩,?_,fun gz=>kk _ (gK.rel R).gp (by rw [hd] at gz;exact gz)⟩
  ·simp [Extern.Sync.semacquire,Extern.Sync.count,hc,aH,Extern.Sync.none_,run_store Tryz.prog w ⟨wg,1,none⟩ (.int .u32 0) .atomic rfl,Result.andThen]
  ·simp [Extern.Sync.semacquire,Extern.Sync.count,hc,aH,semEvents,events_load,events_store Tryz.prog w _ ⟨wg,1,none⟩ (.int .u32 0) .atomic rfl,run_store Tryz.prog w ⟨wg,1,none⟩ (.int .u32 0) .atomic rfl,Result.evThen]
  ·simp [semEvents] at he;rcases he with rfl|rfl|rfl|rfl
   ·exact .inl (.inl rfl)
   ·exact .inl (.inr (.inr ⟨1,_,rfl⟩))
   ·exact .inl (.inr (.inr ⟨1,_,rfl⟩))
   ·exact .inl (.inr (.inl rfl))
  ·show γ.wv=γ.dI ay.ic+(if jF.mU=jF.eR true then 1 else 0);simp;omega
  ·show γ.wr=0/\γ.wv=0/\0=0/\γ.dI ay.gQ=0/\γ.dI ay.hy=0;exact ⟨az,aB,rfl,aX,cp⟩
  ·left;unfold ay.waits;rw [if_pos rfl];exact fun hh=>h0 hh.2
end
end
section
open Go.ConcM (OsLater muBlock)
open Go.ConcR (wgBlock WgAt stA smA)
section
variable{P:Program}{w:World}{t:TypeId}{z:Value}
def grow(w:World)(o:Obj):World:= {w with heap:=w.heap.push o}
theorem ac8(aH:zeroOf P t=some z)(es:Array Event):(zeroValue t).runT P w es=(.ok z w,es):=by
 simp only [zeroOf] at aH;simp only [zeroValue,typeInfo];cases hi:P.info? t with
 | none=>rw [hi] at aH;cases aH
 | some i=>
  rw [hi] at aH;simp only [Option.bind_some] at aH;rw [u6];simp [hi,aH]
theorem T1{α β:Type}{m:Sem α}{f:α->Sem β}{a:α}{w':World}{es:Array Event}(h:m.runT P w #[]=(.ok a w',es)):(m >>= f).runT P w #[]=(f a).runT P w' es:=by
 show (m.bind f).runT P w #[]=_;rw [Sem.runT_bind',h]
theorem afY(aH:zeroOf P t=some z):(Instr.alloc t true (.tuple #[])).runT P w #[]=(.ok (.pointer (some ⟨w.heap.size,0,none⟩)) (grow w (.cells z.cells t)),#[]):=by
 unfold Instr.alloc;rw [T1 (ac8 aH #[])];rfl
end
section
variable{tM tW:TypeId}{os0:eB}{Post:Value->World->Prop}{s γ:ay}{h:ab}{K:ay->ab->Value->Prop}{n:Nat}{hs:Nat->ab}{w:World}{t:Trace}
theorem z203:zeroOf Tryz.prog 203=some (.agg #[.int .i32 0,.int .u32 0]):=by kernel_rfl
theorem aqt:zeroOf Tryz.prog 210=some (.agg #[.int .u64 0,.int .u32 0]):=by kernel_rfl
structure Idle(s:ay):Prop where
 aR:0<s.aR
 n0:s.n0=s.aR
 on:s.on=false
 ib:s.ib=false
 ms:s.ms=.eR false
 w0:s.wv=0/\s.wr=0/\s.ws=0
 bH:s.bH 0=0
theorem fy.KR{sh:Nat->Prop}{mu:Addr}{bW mo:Nat->Prop}(H:fy hs n ab.empty sh mu bW w t):fy hs n ab.empty sh mu mo w t:=
 {H with fp:= {H.fp with bk:=fun b hb=>absurd hb (wX b)}}
def uA(b:Nat->Nat):cK:= {md:=fun _=>.out,di:=b,L:=0,K:=0,S:=0,W:=0,M:=0}
theorem als(n:Nat){f:a7->Nat}(aP:f .out=0):cnt n f (fun _=>.out)=0:=by
 induction n with
 | zero=>rfl
 | succ n aN=>simp only [cnt,Go.ConcN.sumTo] at aN ⊢;rw [aN,aP]
theorem Xr(n:Nat)(b:Nat->Nat):(uA b).cu n:=by
 have e:∀f:a7->Nat,f .out=0->cnt n f (uA b).md=0:=fun f aP=>als n aP;refine ⟨(e _ rfl).symm,by simp [uA],by simp [uA],by simp [uA],fun _=> ?_,fun h=>by simp [uA] at h⟩;rw [e _ rfl,e _ rfl,e _ rfl,e _ rfl,e _ rfl];exact ⟨rfl,rfl,rfl,fun h=>by simp [uA] at h⟩
theorem Idle.rel(D:Idle s)(r:ay.lS 0 s γ):Idle γ:=by
 obtain ⟨hr,z2,z3,z4,z5⟩:=r.z rfl;obtain ⟨w1,w2⟩:=z5 (by rw [D.ms];simp);obtain ⟨d1,d2,d3⟩:=D.w0;exact ⟨by rw [z3];exact D.aR,by rw [r.n0,z3];exact D.n0,r.on.trans D.on,r.ib.trans D.ib,hr.trans D.ms,⟨by omega,w2.trans d2,w1.trans d3⟩,r.bH.trans D.bH⟩
def ay.wb(γ:ay)(B b0:Nat):ay:= {γ with x:=uA (fun _=>b0),cap:=γ.aR+8,mu:=B,sh:=B::γ.sh,ib:=true,b0:=b0,cL:=fun _=>[],I:=fun _ bk=>bk=ab.empty,bk:=ab.empty,cw:=none}
theorem zG(t:Trace)(g:Goroutine):t++opsOf 0 g #[]=t:=by
 show t++MemOp.ofEvents _ _ _ #[]=t;rw [ofEvents_eq];simp
theorem dh.wb(G:dh tM tW os0 γ n hs w t)(D:Idle γ)(b0:Nat):dh tM tW os0 (γ.wb w.heap.size b0) n hs (grow w (muBlock tM 0 0)) t:=by
 have iz:γ.n0=n:=by rw [D.n0];exact G.aR
 have qH:γ.gP=ab.empty:=by unfold ay.gP;rw [D.on];simp
 have l8:=G.hi;rw [qH] at l8;have H1:=(l8.Oh (mu':=⟨w.heap.size,0,none⟩) (Nat.le_refl _)).share (w':=grow w (muBlock tM 0 0)) (by simp [grow]) (fun b hb=>by
  simp only [grow,Array.getElem?_push];rw [if_neg (by omega)])
 have lh:(fun b=>b∈γ.sh\/b=w.heap.size)=(· ∈(γ.wb w.heap.size b0).sh):=by
  funext b;simp only [ay.wb,List.mem_cons];exact propext or_comm
 rw [lh] at H1;have xH:(γ.wb w.heap.size b0).gP=ab.empty:=by unfold ay.gP;rw [show (γ.wb w.heap.size b0).on=γ.on from rfl,D.on];simp
 exact {
  aR:=G.aR
  pos:=G.pos
  n0:=G.n0
  hi:=by rw [xH];exact H1.KR
  ji:=G.ji
  bH:=G.bH
  old:=G.old
  jz:=fun h=>by have:γ.on=true:=h;rw [D.on] at this;cases this
  jd:=fun h=>by have:γ.on=true:=h;rw [D.on] at this;cases this
  gR:=fun h=>by have:γ.on=true:=h;rw [D.on] at this;cases this
  ok:=Xr _ _
  cap:=by show n<=γ.aR+8;rw [G.aR];omega
  out:=fun _ _=>rfl
  cw:=fun _ h=>by cases h
  ll:=fun h=>by have:γ.on=true:=h;rw [D.on] at this;cases this
  full:=fun i h1 h2=>by have:γ.n0<=i:=h1;omega
  hl:=⟨G.hl.v,G.hl.st⟩
  eF:=G.eF
  os:=G.os
  jZ:=fun _=>⟨List.mem_cons_self,by show (w.heap.push _)[w.heap.size]? =_;simp;rfl⟩
  j0:=fun h=>by have:γ.on=true:=h;rw [D.on] at this;cases this
  ku:=fun i _ _=>⟨rfl,rfl⟩}
def ay.uB(γ:ay)(B:Nat):ay:= {γ with wg:=B,sh:=B::γ.sh,on:=true,ib:=false,bk:=ab.empty}
structure zZ(s:ay)(mu b0:Nat):Prop where
 aR:0<s.aR
 n0:s.n0=s.aR
 on:s.on=false
 ib:s.ib=true
 ms:s.ms=.eR false
 w0:s.wv=0/\s.wr=0/\s.ws=0
 mu:s.mu=mu
 cap:s.cap=s.aR+8
 b0:s.b0=b0
 I:s.I=fun _ bk=>bk=ab.empty
 bH:s.bH 0=0
theorem dh.uB{mu b0:Nat}(G:dh tM tW os0 γ n hs w t)(D:zZ γ mu b0):dh tM tW os0 (γ.uB w.heap.size) n hs (grow w (wgBlock tW 0 0)) t:=by
 have iz:γ.n0=n:=by rw [D.n0];exact G.aR
 have qH:γ.gP=ab.empty:=by unfold ay.gP;rw [D.on];simp
 have l8:=G.hi;rw [qH] at l8;have H1:=l8.share (w':=grow w (wgBlock tW 0 0)) (by simp [grow]) (fun b hb=>by
  simp only [grow,Array.getElem?_push];rw [if_neg (by omega)])
 have lh:(fun b=>b∈γ.sh\/b=w.heap.size)=(· ∈(γ.uB w.heap.size).sh):=by
  funext b;simp only [ay.uB,List.mem_cons];exact propext or_comm
 rw [lh] at H1;obtain ⟨fx,fW⟩:=G.jZ D.ib;have bY:=G.hi.low _ fx;have xH:(γ.uB w.heap.size).gP=ab.empty:=by unfold ay.gP;split<;>rfl
 exact {
  aR:=G.aR
  pos:=G.pos
  n0:=G.n0
  hi:=by rw [xH];exact H1.KR
  ji:=⟨Vz G.hi.fp.low (Nat.le_refl _),(fun i h0 hi e=>by
    exfalso;have dt:i<(γ.uB w.heap.size).n0:=by show i<γ.n0;omega
    have:(γ.uB w.heap.size).eE hs i=.jn:=by unfold ay.eE;rw [if_pos dt]
    rw [this] at e;cases e),fun i h0 hi e=>G.ji.jn i h0 hi (by unfold ay.eE;rw [if_pos (show i<γ.n0 by omega)])⟩
  bH:=G.bH
  old:=G.old
  jz:=fun _=>by
   show (w.heap.push _)[γ.mu]? =_;rw [Array.getElem?_push,if_neg (by omega)];exact fW
  jd:=fun _=>by
   obtain ⟨d1,d2,d3⟩:=D.w0;show (w.heap.push _)[w.heap.size]? =some (wgBlock tW ((4294967296*γ.wv+γ.wr:Nat):Int) ((γ.ws:Nat):Int));rw [d1,d2,d3];simp
  gR:=fun _=>⟨List.mem_cons_of_mem _ fx,List.mem_cons_self,by show γ.mu≠w.heap.size;omega⟩
  ok:=G.ok
  cap:=G.cap
  out:=G.out
  cw:=G.cw
  ll:=fun _ _=>by
   show γ.I γ.cL ab.empty/\ab.empty.kR;rw [D.I];exact ⟨rfl,by intro b x aa;simp [ab.empty] at aa⟩
  full:=fun i h1 h2=>by have:γ.n0<=i:=h1;omega
  hl:=⟨G.hl.v,G.hl.st⟩
  eF:=G.eF
  os:=G.os
  jZ:=fun h=>by cases h
  j0:=fun _=>rfl
  ku:=G.ku}
end
end
section
open Go.ConcM (OsLater muBlock)
open Go.ConcR (wgBlock WgAt stA smA)
section
variable{os0:eB}{Post:Value->World->Prop}{s γ:ay}{h:ab}{K:ay->ab->Value->Prop}{n:Nat}{hs:Nat->ab}{w:World}{t:Trace}{b:bn}
theorem Tf{main:Bool}{a:Act}{ops:Array Oper}{j:Nat}{rest:List Nat}{k:List Item}{cs:List Frame}{o:Oper}{ty:TypeId}{z:Value}(aH:zeroOf Tryz.prog ty=some z)(aF:o.op=.alloc ty)(hk:b.kind≠.early)(aQ:ops[j]? =some o)
  (hw:Region.wanted o (yielded ops a.tmps)=true):stepG Tryz.prog main (Conc.G (b.at a (.inRegion ops (j::rest)::k)) cs) w=.go (Conc.G (b.at (a.put o.dst (.pointer (some ⟨w.heap.size,0,none⟩))) (.inRegion ops rest::k)) cs) (grow w (.cells z.cells ty)) #[]:=by
 have al:(execOp a.eval o).runT Tryz.prog w #[]=(.ok (.value (.pointer (some ⟨w.heap.size,0,none⟩))) (grow w (.cells z.cells ty)),#[]):=by
  have e1:execOp a.eval o=(do pure (.value (<- Instr.alloc ty true (.tuple #[]))):Sem Next):=by unfold execOp;rw [aF]
  rw [e1,T1 (afY aH)];rfl
 have:=tq (P:=Tryz.prog) (main:=main) (rest:=rest) (k:=k) (cs:=cs) aQ hw (by unfold lE;rw [aF]) hk al rfl;rw [seen_none] at this;exact this
theorem aqu(D:Idle s)(b0:Nat)(kk:∀γ B,zZ γ B b0->h B=none->γ.aR=s.aR->K γ h (.pointer (some ⟨B,0,none⟩))):
  oi Tryz.prog true (SM 203 210 os0 Post) b 203 s h (K:=⟨K⟩):=by
 show ∀o aS,_->_;intro o aS aF;refine zs fun a ops j rest k cs hk aA aQ hw γ n dX w t al cQ gx=>.inr ?_;have R:=so al D.aR;have dZ:=D.rel R;have cj:=Tf (main:=true) (w:=w) (rest:=rest) (k:=k) (cs:=cs) z203 aF hk aQ hw;refine ⟨γ.wb w.heap.size b0,_,_,#[],h,cj,?_,fun j ae=> ?_,fun j h1 h2=> ?_,?_⟩
 ·rw [zG,<- gx,p9];exact cQ.wb dZ b0
 ·refine ⟨?_,Iff.rfl⟩;by_cases hL:γ.aR<=j
  ·exact .inl hL
  ·have:=cQ.old j (by omega) (by rw [dZ.n0];omega);exact .inr (.inl ⟨ae,Nat.le_refl _,this,this⟩)
 ·exfalso;have dy:γ.waits j:=h1;unfold ay.waits at dy;split at dy
  ·rw [dZ.ms] at dy;cases dy.1
  ·rename_i ae;have mT:γ.x.md j=.out:=by
    by_cases hL:j<γ.aR
    ·exact cQ.out j (.inr (.inr (by rw [cQ.old j (by omega) (by rw [dZ.n0];exact hL)];simp)))
    ·exact cQ.out j (.inr (.inl (by rw [<- cQ.aR];omega)))
   rw [mT] at dy;cases dy.1
 ·refine kk _ _ ⟨dZ.aR,dZ.n0,dZ.on,rfl,dZ.ms,dZ.w0,rfl,rfl,rfl,rfl,dZ.bH⟩ ?_ (R.z rfl).2.2.1;have:=In.none (cQ.hi.eb 0);rw [gx] at this;exact this
theorem zZ.rel{mu b0:Nat}(D:zZ s mu b0)(r:ay.lS 0 s γ):zZ γ mu b0:=by
 obtain ⟨hr,z2,z3,z4,z5⟩:=r.z rfl;obtain ⟨w1,w2⟩:=z5 (by rw [D.ms];simp);obtain ⟨d1,d2,d3⟩:=D.w0;exact ⟨by rw [z3];exact D.aR,by rw [r.n0,z3];exact D.n0,r.on.trans D.on,r.ib.trans D.ib,hr.trans D.ms,by omega,r.mu.trans D.mu,by rw [r.cap,z3];exact D.cap,r.b0.trans D.b0,r.I.trans D.I,r.bH.trans D.bH⟩
structure OC(s:ay)(mu wg b0:Nat):Prop where
 m:gJ s wg mu (.eR false) 0
 n0:s.n0=s.aR
 cap:s.cap=s.aR+8
 b0:s.b0=b0
 I:s.I=fun _ bk=>bk=ab.empty
 ne:mu≠wg
theorem aqv{mu b0:Nat}(D:zZ s mu b0)(kk:∀γ B,OC γ mu B b0->h B=none->γ.aR=s.aR->K γ h (.pointer (some ⟨B,0,none⟩))):
  oi Tryz.prog true (SM 203 210 os0 Post) b 210 s h (K:=⟨K⟩):=by
 show ∀o aS,_->_;intro o aS aF;refine zs fun a ops j rest k cs hk aA aQ hw γ n dX w t al cQ gx=>.inr ?_;have R:=so al D.aR;have dZ:=D.rel R;have cj:=Tf (main:=true) (w:=w) (rest:=rest) (k:=k) (cs:=cs) aqt aF hk aQ hw;refine ⟨γ.uB w.heap.size,_,_,#[],h,cj,?_,fun j ae=> ?_,fun j h1 h2=> ?_,?_⟩
 ·rw [zG,<- gx,p9];exact cQ.uB dZ
 ·refine ⟨?_,Iff.rfl⟩;by_cases hL:γ.aR<=j
  ·exact .inl hL
  ·have:=cQ.old j (by omega) (by rw [dZ.n0];omega);exact .inr (.inl ⟨ae,Nat.le_refl _,this,this⟩)
 ·exfalso;have dy:γ.waits j:=h1;unfold ay.waits at dy;split at dy
  ·rw [dZ.ms] at dy;cases dy.1
  ·rename_i ae;have mT:γ.x.md j=.out:=by
    by_cases hL:j<γ.aR
    ·exact cQ.out j (.inr (.inr (by rw [cQ.old j (by omega) (by rw [dZ.n0];exact hL)];simp)))
    ·exact cQ.out j (.inr (.inl (by rw [<- cQ.aR];omega)))
   rw [mT] at dy;cases dy.1
 ·have bY:=cQ.hi.low _ (cQ.jZ dZ.ib).1;refine kk _ _ ⟨⟨rfl,dZ.aR,dZ.ms,dZ.bH,rfl,dZ.mu⟩,dZ.n0,dZ.cap,dZ.b0,dZ.I,by rw [<- dZ.mu];omega⟩ ?_ (R.z rfl).2.2.1;have:=In.none (cQ.hi.eb 0);rw [gx] at this;exact this
theorem dh.Cl{tM tW:TypeId}{mu wg b0 k:Nat}(G:dh tM tW os0 γ n hs w t)(hn:γ.on=true)(hj:γ.n0=γ.aR)(awo:γ.I=fun _ bk=>bk=ab.empty){gd':ab}{I:(Nat->List cT)->ab->Prop}{full:Nat->List cT}
  (hK:∀b x,gd' b=some x->hs 0 b=some x) (hgo:gd'.kR) (bU:I (fun _=>[]) gd'):
  dh tM tW os0 {γ with bk:=gd',I:=I,full:=full,cL:=fun _=>[]} n (cC hs 0 ((hs 0).del gd')) w t:=by
 have kn:∀j,0<j->γ.x.md j=.out:=fun j ae=>by
  by_cases hL:j<γ.aR
  ·exact G.out j (.inr (.inr (by rw [G.old j ae (by rw [hj];exact hL)];simp)))
  ·exact G.out j (.inr (.inl (by rw [<- G.aR];omega)))
 have eD:γ.cw=none:=by
  cases aE:γ.cw with
  | none=>rfl
  | some q=>
   obtain ⟨an,az⟩:=G.cw q aE;by_cases h0:q=0
   ·subst h0;rw [G.out 0 (.inl rfl)] at az;cases az
   ·rw [kn q (by omega)] at az;cases az
 have um:γ.bk=ab.empty:=by
  have:=(G.ll hn eD).1;rw [awo] at this;exact this
 have qH:γ.gP=ab.empty:=by unfold ay.gP;rw [if_pos ⟨hn,eD⟩];exact um
 have l8:=G.hi;rw [qH] at l8;have AP:γ.bW=fun g=>g=0:=by
  funext j;unfold ay.bW;refine propext ⟨fun h=>h.elim id fun h=>by omega,.inl⟩
 rw [AP] at l8;have H1:=l8.Cl G.pos hK hgo;have xH:({γ with bk:=gd',I:=I,full:=full,cL:=fun _=>[]}:ay).gP=gd':=by unfold ay.gP;rw [if_pos ⟨hn,eD⟩]
 have as7:({γ with bk:=gd',I:=I,full:=full,cL:=fun _=>[]}:ay).bW=fun g=>g=0:=AP;exact {
  aR:=G.aR
  pos:=G.pos
  n0:=G.n0
  hi:=by rw [xH,as7];exact H1
  ji:=by
   refine G.ji.weaken fun i h0=>.inl ?_;unfold ay.eE;rw [gr _ _ (by omega)]
  bH:=G.bH
  old:=G.old
  jz:=G.jz
  jd:=G.jd
  gR:=G.gR
  ok:=G.ok
  cap:=G.cap
  out:=G.out
  cw:=fun i hi=>by rw [show ({γ with bk:=gd',I:=I,full:=full,cL:=fun _=>[]}:ay).cw=γ.cw from rfl,eD] at hi;cases hi
  ll:=fun _ _=>⟨bU,hgo⟩
  full:=fun i h1 h2=>by have dy:γ.n0<=i:=h1;have:=G.aR;omega
  hl:=⟨G.hl.v,G.hl.st⟩
  eF:=fun j h0 ae=>by rw [gr _ _ (by omega)];exact G.eF j h0 ae
  os:=G.os
  jZ:=G.jZ
  j0:=G.j0
  ku:=fun i h1 h2=>⟨rfl,(G.ku i h1 h2).2⟩}
end
end
section
open Go.ConcM (OsLater muBlock)
open Go.ConcR (wgBlock WgAt stA smA)
section
variable{os0:eB}{Post:Value->World->Prop}{s γ:ay}{h:ab}{K:ay->ab->Value->Prop}{n:Nat}{hs:Nat->ab}{w:World}{t:Trace}{b:bn}{wg mu b0 k:Nat}
structure iZ(s:ay)(mu wg b0:Nat)(ms:jF)(k:Nat)(I:(Nat->List cT)->ab->Prop)(full:Nat->List cT)(N:Nat):Prop where
 m:gJ s wg mu ms k
 n0:s.n0=N
 cap:s.cap=N+8
 b0:s.b0=b0
 I:s.I=I
 full:s.full=full
 ne:mu≠wg
theorem iZ.mk'{ms ms':jF}{k':Nat}{I:(Nat->List cT)->ab->Prop}{full:Nat->List cT}{N:Nat}(B:iZ s mu wg b0 ms k I full N)(r:gK s γ)(M:gJ γ wg mu ms' k'):iZ γ mu wg b0 ms' k' I full N:=
 ⟨M,r.n0.trans B.n0,r.cap.trans B.cap,r.b0.trans B.b0,r.I.trans B.I,r.full.trans B.full,B.ne⟩
theorem aog{I:(Nat->List cT)->ab->Prop}{full:Nat->List cT}{gd':ab}(D:OC s mu wg b0)(hK:∀b x,gd' b=some x->h b=some x)(hgo:gd'.kR)(bU:I (fun _=>[]) gd')
  (kk:∀γ,iZ γ mu wg b0 (.eR false) 1 I full s.aR->γ.aR=s.aR->K γ (h.del gd') (.tuple #[])):eX Tryz.prog true (SM 203 210 os0 Post) 128 #[] s h (K:=⟨K⟩):=by
 refine .inr (.inr fun b o aS xs hU aF jw=>zs fun a ops j rest k cs hk aA aQ hw γ n dX w t al cQ gx=>.inr ?_);subst aA;have R:=so al D.m.aR;have M2:=D.m.rel R;have iz:=(R.z rfl).2.2.1;have cj:=tr (rest:=rest) (main:=true) (b:=b) (a:=a) (k:=k) (cs:=cs) (w:=w) (w':=w) (v:=.tuple #[]) (evs:=#[⟨.mark .disable,false,true⟩]) aQ hw hk aF se.f se.name se.body se.next se.find (by simp [Extern.Race.none_]) (by simp) (by
  intro y ax;simp at ax;subst ax;exact ⟨rfl,fun g h=>by cases h⟩)
 have wD:=cQ.gp (ms:=γ.ms) (wv:=γ.wv) (wr:=γ.wr) (ws:=γ.ws) (es:=#[⟨.mark .disable,false,true⟩]) (w':=w) M2.on (xp cQ.hl) rfl (fun _ _=>rfl) (cQ.jd M2.on) (.refl _) (fun e he=>by simp at he;subst he;exact .inl (.inl rfl)) (Conc.G (b.at a (.inRegion ops (j::rest)::k)) cs).frame.fn (Conc.G (b.at a (.inRegion ops (j::rest)::k)) cs).frame.place;have hj:γ.n0=γ.aR:=by rw [R.n0,D.n0,iz]
 have uX:=wD.Cl (mu:=mu) (wg:=wg) (b0:=b0) (k:=0) (gd':=gd') (I:=I) (full:=full) M2.on hj (R.I.trans D.I) (by rw [gx];exact hK) hgo bU;rw [gx] at uX;refine ⟨_,.tuple #[],w,_,h.del gd',cj,uX,fun j ae=> ?_,fun j h1 h2=> ?_,?_⟩
 ·refine ⟨?_,Iff.rfl⟩;by_cases hL:γ.aR<=j
  ·exact .inl hL
  ·have:=cQ.old j (by omega) (by rw [hj];omega);exact .inr (.inl ⟨ae,Nat.le_refl _,this,this⟩)
 ·exfalso;have dy:γ.waits j:=h1;unfold ay.waits at dy;split at dy
  ·rw [M2.ms] at dy;cases dy.1
  ·rename_i ae;have mT:γ.x.md j=.out:=by
    by_cases hL:j<γ.aR
    ·exact cQ.out j (.inr (.inr (by rw [cQ.old j (by omega) (by rw [hj];exact hL)];simp)))
    ·exact cQ.out j (.inr (.inl (by rw [<- cQ.aR];omega)))
   rw [mT] at dy;cases dy.1
 ·have gz:=M2.gp (ms':=γ.ms) (wv:=γ.wv) (wr:=γ.wr) (ws:=γ.ws) (es:=#[⟨.mark .disable,false,true⟩]) (k':=1) (by simp [deafBehind]);rw [M2.ms] at gz;exact kk _ ⟨⟨gz.on,gz.aR,M2.ms,by have:=gz.bH;rw [M2.ms];exact this,gz.wg,gz.mu⟩,R.n0.trans D.n0,by show γ.cap=_;rw [R.cap,D.cap],R.b0.trans D.b0,rfl,rfl,D.ne⟩ iz
end
end
section
open Go.ConcM (OsLater muBlock)
open Go.ConcR (wgBlock WgAt stA smA)
def ay.fork(γ:ay)(n:Nat):ay:= {γ with aR:=n+1,ms:=.eR false,wd:=Go.ConcN.upd γ.wd n .wk,bH:=Go.ConcN.upd γ.bH n 0}
section
variable{tM tW:TypeId}{os0:eB}{Post:Value->World->Prop}{s γ:ay}{h:ab}{K:ay->ab->Value->Prop}{n:Nat}{hs:Nat->ab}{w:World}{t:Trace}{b:bn}{wg mu b0 k:Nat}{h0 hc:ab}
theorem Ma(ao:γ.aR=n)(hj:γ.n0<=n)(f:WD->Nat):(γ.fork n).dI f=γ.dI f+f .wk:=by
 show Go.ConcN.sumTo (n+1) (fun i=>if γ.n0<=i then f (Go.ConcN.upd γ.wd n .wk i) else 0)=Go.ConcN.sumTo γ.aR _+_;rw [ao];simp only [Go.ConcN.sumTo,Go.ConcN.upd_same,if_pos hj];congr 1;refine Go.ConcN.sumTo_congr fun i hi=> ?_;rw [Go.ConcN.upd_ne _ _ (by omega)]
theorem dh.fork(G:dh tM tW os0 γ n hs w t)(hn:γ.on=true)(hz:γ.ms=.eR true)(gd:n<γ.cap)(hj:γ.n0<=n)(m3:γ.bH 0=0)(S:G0 (hs 0) h0 hc){x y:MemOp}(aa:x.g=0/\x.act=.go n)(ax:y.g=n/\y.act=.start):
  dh tM tW os0 (γ.fork n) (n+1) (cC (cC hs 0 h0) n hc) w (t++#[x,y]):=by
 have xD:=G.pos;have um:¬γ.gone 0:=fun h=>h.1 rfl;have sH:Deaf t 0=0:=(G.bH 0 G.pos um).trans m3;have jT:∀j,j≠n->(γ.fork n).wd j=γ.wd j:=fun j ae=>Go.ConcN.upd_ne _ _ ae;have IG:(γ.fork n).wd n=.wk:=Go.ConcN.upd_same _ _ _;have aan:∀j,j≠0->j≠n->cC (cC hs 0 h0) n hc j=hs j:=fun j h1 h2=>by rw [gr _ _ h2,gr _ _ h1]
 have e2:t++#[x,y]=(t++#[x])++#[y]:=by rw [Array.append_assoc];rfl
 have aqw:∀j,Deaf (t++#[x,y]) j=Deaf t j:=fun j=>by
  rw [e2,Deaf_push,Deaf_push];simp [deafStep,aa.2,ax.2]
 have H:=G.hi.fork (h0:=h0) (hc:=hc) G.pos (Or.inl rfl) S aa ax sH;have AP:(fun g=>γ.bW g\/g=n)=(γ.fork n).bW:=by
  funext g;unfold ay.bW;show ((g=0\/(γ.n0<=g/\g<γ.aR))\/g=n)=(g=0\/(γ.n0<=g/\g<n+1));rw [G.aR];refine propext ⟨fun h=> ?_,fun h=> ?_⟩<;>omega
 rw [AP] at H;exact {
  aR:=rfl
  pos:=by omega
  n0:=⟨G.n0.1,by show γ.n0<=n+1;omega⟩
  hi:=H
  ji:=by
   have ae:∀i,0<i->(γ.fork n).eE (cC (cC hs 0 h0) n hc) i=γ.eE hs i\/(γ.fork n).eE (cC (cC hs 0 h0) n hc) i=.wk:=fun i hi=>by
    unfold ay.eE;by_cases dF:i=n
    ·subst dF;rw [IG];right;rw [if_neg (show ¬i<(γ.fork i).n0 from Nat.not_lt.2 hj),if_pos (.inl rfl)]
    ·left;rw [jT i dF,aan i (by omega) dF];rfl
   have hL:(γ.fork n).eE (cC (cC hs 0 h0) n hc) n=.wk:=by
    unfold ay.eE;rw [if_neg (show ¬n<(γ.fork n).n0 from Nat.not_lt.2 hj),if_pos (.inl IG)]
   have J:=((G.ji.weaken ae).app (g:=0) (u:=#[x]) (fun op aF=>by simp at aF;subst aF;exact aa.1) (fun op aF=>by simp at aF;subst aF;rw [aa.2];simp) (fun h=>by omega)).app (g:=n) (u:=#[y]) (fun op aF=>by simp at aF;subst aF;exact ax.1) (fun op aF=>by simp at aF;subst aF;rw [ax.2];simp) (fun _ h=>absurd hL h);rw [<- e2] at J;refine ⟨J.norel,fun i hi h1 e=> ?_,fun i hi h1 e=> ?_⟩
   ·by_cases dF:i=n
    ·subst dF;rw [hL] at e;cases e
    ·exact J.s5 i hi (by omega) e
   ·by_cases dF:i=n
    ·subst dF;rw [hL] at e;cases e
    ·exact J.jn i hi (by omega) e
  bH:=fun j ae kX=>by
   rw [aqw];show _=Go.ConcN.upd γ.bH n 0 j;by_cases e:j=n
   ·subst e;rw [Go.ConcN.upd_same];exact Go.ConcN.Deaf_absent fun i op hi e=>by have:=G.hi.fp.gs i op hi;omega
   ·rw [Go.ConcN.upd_ne _ _ e];exact G.bH j (by omega) fun h=>kX ⟨h.1,by rw [jT j e];exact h.2⟩
  old:=fun j h1 h2=>by
   have oj:j<γ.n0:=h2;rw [jT j (by omega)];exact G.old j h1 oj
  jz:=G.jz
  jd:=G.jd
  gR:=G.gR
  ok:=G.ok
  cap:=by show n+1<=γ.cap;omega
  out:=fun j ae=>by
   by_cases e:j=n
   ·subst e;exact G.out j (.inr (.inl (Nat.le_refl _)))
   ·rw [jT j e] at ae;exact G.out j (ae.imp_right (Or.imp_left fun h=>by omega))
  cw:=fun i hi=>⟨by have:=(G.cw i hi).1;omega,(G.cw i hi).2⟩
  ll:=G.ll
  full:=fun i h1 h2 h3=>by
   by_cases e:i=n
   ·subst e;exact absurd IG h3
   ·rw [jT i e] at h3;exact G.full i h1 (by omega) h3
  hl:=by
   have v:=G.hl.v;have st:=G.hl.st;rw [hz] at v st;simp at v st;refine ⟨?_,?_⟩
   ·show γ.wv=(γ.fork n).dI ay.ic+(if jF.eR false=jF.eR true then 1 else 0);rw [Ma G.aR hj];simp [ay.ic];omega
   ·show γ.wr=0/\γ.ws=0/\(γ.fork n).dI ay.gQ=0/\(γ.fork n).dI ay.hy=0;rw [Ma G.aR hj,Ma G.aR hj];simp [ay.gQ,ay.hy];omega
  eF:=fun j h1 h2=>by
   by_cases e:j=n
   ·subst e;rw [IG] at h2;cases h2
   ·rw [jT j e] at h2;rw [aan j (by omega) e];exact G.eF j h1 h2
  os:=G.os
  jZ:=G.jZ
  j0:=G.j0
  ku:=fun i h1 h2=>G.ku i (by omega) h2}
theorem alu{a:Act}{ops:Array Oper}{j:Nat}{rest:List Nat}{k:List Item}{cs:List Frame}{o:Oper}{x:Operand}{f:FuncId}{cap:Array Value}{hU:Array TypeId}(aF:o.op=.go ⟨.value x,#[],hU⟩)(aa:a.eval x=.func (.func f) #[] cap)(hk:b.kind≠.early)(aQ:ops[j]? =some o)
  (hw:Region.wanted o (yielded ops a.tmps)=true):stepG Tryz.prog true (Conc.G (b.at a (.inRegion ops (j::rest)::k)) cs) w=.spawn (Conc.G (b.at (a.put o.dst undef) (.inRegion ops rest::k)) cs) (born Tryz.prog {target:=.fn (.func f) cap,args:=#[]}) w #[]:=by
 have al:(execOp a.eval o).runT Tryz.prog w #[]=(.ok (.spawn {target:=.fn (.func f) cap,args:=#[]}) w,#[]):=by
  unfold execOp;rw [aF];simp only [resolve,aa,Deferred.ofValue];have:(#[]++Array.map a.eval #[]:Array Value)=#[]:=by simp
  rw [this];rfl
 have hJ:(b.kind==CallKind.early)=false:=by simpa using hk
 have n5:∀v,(b.at a (.inRegion ops (j::rest)::k)).finish v=b.at (a.put o.dst v) (.inRegion ops rest::k):=fun v=>by rw [bn.finish_at,aQ];rfl
 rw [K4 aQ hw (by unfold lE;rw [aF])];unfold stepG.apply;simp only [if_true,al];have Og:(b.at a (.inRegion ops (j::rest)::k)).kind=b.kind:=rfl;simp only [Og,hJ,Bool.false_eq_true,if_false];rw [n5];simp [seen_none,GStep.after,born,G]
theorem as8{cap:Array Value}{N:Nat}{I:(Nat->List cT)->ab->Prop}{full:Nat->List cT}(B:iZ s mu wg b0 (.eR true) 0 I full N)(gd:s.aR<N+8)(uR:N<=s.aR)(S:G0 h h0 hc)
  (child:∀γ,dO s.aR γ γ .out 0 b0 false []->γ.I=I->γ.full=full->γ.mu=mu->γ.wg=wg->γ.n0=N->γ.cap=N+8->
   dp Tryz.prog false (ep tM tW os0 Post s.aR) (fun _ _ _=>False) γ hc (born Tryz.prog {target:=.fn (.func 97) cap,args:=#[]}))
  (kk:∀γ,iZ γ mu wg b0 (.eR false) 0 I full N->γ.aR=s.aR+1->K γ h0 undef):
  vQ Tryz.prog true (SM tM tW os0 Post) b (.func (.func 97) #[] cap) #[] s h (K:=⟨K⟩):=by
 intro o aS x xs hU aF iO jw Q a ops j rest k cs hk aA aQ hw c;subst aA;have QJ:xs=#[]:=by
  have:=congrArg Array.size jw;simp at this;exact this
 subst QJ;refine dp.sync ⟨rfl,rfl,fun γ n dX w t al cQ gx=>.inr (.inr ?_)⟩;have R:=so al B.m.aR;have M2:=B.m.rel R;have iz:=(R.z rfl).2.2.1;have ao:n=s.aR:=cQ.aR.symm.trans iz;subst ao;have hj:γ.n0=N:=R.n0.trans B.n0;have jA:γ.cap=N+8:=R.cap.trans B.cap;have zU:=alu (rest:=rest) (k:=k) (cs:=cs) (w:=w) aF iO hk aQ hw;have awp:=cQ.fork (h0:=h0) (hc:=hc) (x:= {g:=0,fn:=(Conc.G (b.at a (.inRegion ops (j::rest)::k)) cs).frame.fn,pos:=(Conc.G (b.at a (.inRegion ops (j::rest)::k)) cs).frame.place,act:=.go s.aR})
  (y:= {g:=s.aR,fn:=(born Tryz.prog {target:=.fn (.func 97) cap,args:=#[]}).frame.fn,pos:=(Conc.G (b.at a (.inRegion ops (j::rest)::k)) cs).frame.place,act:=.start}) M2.on M2.ms (by rw [jA];omega) (by omega) M2.bH (by rw [gx];exact S) ⟨rfl,rfl⟩ ⟨rfl,rfl⟩
 have xD:=cQ.pos;obtain ⟨gX,fi⟩:=cQ.ku s.aR (Nat.le_refl _) (by rw [jA];omega);have eC:dO s.aR (γ.fork s.aR) (γ.fork s.aR) .out 0 b0 false []:=
  ⟨⟨xD,M2.on,Go.ConcN.upd_same _ _ _,by show γ.n0<=s.aR;omega,Nat.lt_succ_self _⟩,by show s.aR<γ.cap;omega,by show γ.cap<=γ.n0+8;omega,.refl _ _,cQ.out _ (.inr (.inl (Nat.le_refl _))),fi.trans (R.b0.trans B.b0),Go.ConcN.upd_same _ _ _,⟨fun e=>by have:=(cQ.cw _ e).1;omega,fun e=>by cases e⟩,gX⟩
 refine ⟨γ.fork s.aR,_,_,w,#[],h0,hc,zU,?_,fun mG h1 h2=> ?_,fun mG h1=> ?_,fun aG=> ?_,child _ eC (R.I.trans B.I) (R.full.trans B.full) M2.mu M2.wg hj jA,rfl,c _ _ _ (kk _ ⟨⟨M2.on,Nat.succ_pos _,rfl,?_,M2.wg,M2.mu⟩,hj,jA,R.b0.trans B.b0,R.I.trans B.I,R.full.trans B.full,B.ne⟩ rfl)⟩
 ·rw [zG];have e:∀x y:MemOp,(t.push x).push y=t++#[x,y]:=fun x y=>by rw [show (#[x,y]:Array MemOp)=#[x]++#[y] from rfl,<- Array.append_assoc];rfl
  show dh tM tW os0 (γ.fork s.aR) (s.aR+1) (cC (cC dX 0 h0) s.aR hc) w ((t.push _).push _);rw [e];exact awp
 ·have jT:(γ.fork s.aR).wd mG=γ.wd mG:=Go.ConcN.upd_ne _ _ h2;refine ⟨?_,by show (mG≠0/\_)↔(mG≠0/\_);rw [jT]⟩;by_cases ae:γ.aR<=mG
  ·exact .inl ae
  ·exact .inr (.inr ⟨by show γ.aR<=s.aR+1;omega,rfl,rfl,rfl,rfl,rfl,rfl,rfl,jT,rfl,rfl,Go.ConcN.upd_ne _ _ h2,Iff.rfl,rfl,Nat.le_refl _,fun h=>absurd rfl h,fun _=>rfl,fun h=>absurd h h1,rfl,rfl⟩)
 ·have dy:γ.waits mG:=h1;show (γ.fork s.aR).waits mG;unfold ay.waits at dy ⊢;split
  ·rename_i ae;rw [if_pos ae,M2.ms] at dy;cases dy.1
  ·rename_i ae;rw [if_neg ae] at dy;exact dy
 ·have:=aG.2;rw [show (γ.fork s.aR).wd s.aR=.wk from Go.ConcN.upd_same _ _ _] at this;cases this
 ·show Go.ConcN.upd γ.bH s.aR 0 0=0;rw [Go.ConcN.upd_ne _ _ (by omega)];exact M2.bH
end
end
section
open Go.ConcM (OsLater muBlock)
open Go.ConcR (wgBlock WgAt stA smA)
def ay.joined(γ:ay):ay:= {γ with n0:=γ.aR,on:=false,ms:=.eR false,wv:=0,wr:=0,ws:=0,bk:=ab.empty}
section
variable{tM tW:TypeId}{os0:eB}{Post:Value->World->Prop}{s γ:ay}{h:ab}{K:ay->ab->Value->Prop}{n:Nat}{hs:Nat->ab}{w:World}{t:Trace}{b:bn}{wg mu b0 k:Nat}
theorem aiB{m:Nat}{f:Nat->Nat}(h:Go.ConcN.sumTo m f=0):∀i,i<m->f i=0:=by
 intro i hi;refine Classical.byContradiction fun b7=> ?_
 induction m with
 | zero=>omega
 | succ m aN=>
  simp only [Go.ConcN.sumTo] at h;by_cases e:i=m
  ·subst e;omega
  ·exact aN (by omega) (by omega)
theorem aiC{γ:ay}(W:γ.oo)(hz:γ.ms=.mU\/(γ.ms=.loop/\γ.wv=0)):∀i,γ.n0<=i->i<γ.aR->γ.wd i=.eF:=by
 intro i h1 h2;have v:=W.v;have st:=W.st;have aH:γ.dI ay.ic=0/\γ.dI ay.gQ=0/\γ.dI ay.hy=0:=by
  rcases hz with hm|⟨hm,aI⟩<;>rw [hm] at v st<;>simp at v st<;>omega
 obtain ⟨hr,z2,z3⟩:=aH;have q:∀f:WD->Nat,γ.dI f=0->f (γ.wd i)=0:=fun f aP=>by
  have:=aiB aP i h2;simpa [h1] using this
 have an:=q _ hr;have az:=q _ z2;have aB:=q _ z3;cases hw:γ.wd i with
 | eF=>rfl
 | wk=>rw [hw] at an;cases an
 | jE=>rw [hw] at an;cases an
 | a1=>rw [hw] at az;cases az
 | a2=>rw [hw] at az;cases az
 | a3=>rw [hw] at aB;cases aB
theorem dh.join(G:dh tM tW os0 γ n hs w t)(hn:γ.on=true)(hz:γ.ms=.mU\/(γ.ms=.loop/\γ.wv=0))(m3:γ.bH 0=0)(fn:FuncId)(pos:String):
  γ.cw=none/\(∀j,γ.x.md j=.out)/\(∀j,0<j->j<n->γ.wd j=.eF)/\dh tM tW os0 γ.joined n (cC hs 0 ((hs 0).add γ.bk)) w (t++MemOp.ofEvents 0 fn pos #[⟨.mark (.acquire ⟨γ.wg,0,none⟩),false,true⟩]):=by
 have kn:=aiC G.hl hz;have x4:∀j,0<j->j<n->γ.wd j=.eF:=fun j h1 h2=>by
  by_cases ae:j<γ.n0
  ·exact G.old j h1 ae
  ·exact kn j (by omega) (by rw [G.aR];exact h2)
 have mT:∀j,γ.x.md j=.out:=fun j=>by
  by_cases h0:j=0
  ·exact G.out j (.inl h0)
  ·by_cases ae:n<=j
   ·exact G.out j (.inr (.inl ae))
   ·exact G.out j (.inr (.inr (by rw [x4 j (by omega) (by omega)];simp)))
 have eD:γ.cw=none:=by
  cases aE:γ.cw with
  | none=>rfl
  | some q=>
   have:=(G.cw q aE).2;rw [mT q] at this;cases this
 refine ⟨eD,mT,x4,?_⟩;obtain ⟨fx,fW,jj⟩:=G.gR hn;have aF:MemOp.ofEvents 0 fn pos #[⟨.mark (.acquire ⟨γ.wg,0,none⟩),false,true⟩]=#[{g:=0,fn,pos,act:=.mark (.acquire ⟨γ.wg,0,none⟩)}]:=by
  rw [ofEvents_eq];simp [MemAct.ofEvent]
 rw [aF];have um:¬γ.gone 0:=fun h=>h.1 rfl;have du:Deaf t 0=0:=(G.bH 0 G.pos um).trans m3;have qH:γ.gP=γ.bk:=by unfold ay.gP;rw [if_pos ⟨hn,eD⟩]
 have l8:=G.hi;rw [qH] at l8;have H1:fy hs n γ.bk (· ∈γ.sh) ⟨γ.mu,0,none⟩ γ.bW w (t++#[{g:=0,fn,pos,act:=.mark (.acquire ⟨γ.wg,0,none⟩)}]):=by
  refine l8.shared G.pos rfl (fun _ _=>rfl) fun op aF=> ?_;simp at aF;subst aF;exact ⟨⟨rfl,by simp,fun x aa=>by simp [MemAct.touch?] at aa⟩,G.hi.low _ fW⟩
 have hL:∀i,0<i->i<n->wA (t++#[{g:=0,fn,pos,act:=.mark (.acquire ⟨γ.wg,0,none⟩)}]) i:=fun i h1 h2=>by
  refine G.ji.join rfl rfl du h1 h2 ?_;unfold ay.eE;split
  ·simp
  ·rw [if_neg]
   ·simp
   ·rw [x4 i h1 h2,G.eF i h1 (x4 i h1 h2)];simp
 have hgo:=(G.ll hn eD).2;have H2:=H1.asO G.pos hgo fun b hb=>H1.fp.joined hL (fun hs=>H1.ex.tE b hb hs);have xH:γ.joined.gP=ab.empty:=by unfold ay.gP;simp [ay.joined]
 have xY:∀f,γ.joined.dI f=0:=fun f=>by
  show Go.ConcN.sumTo γ.aR (fun i=>if γ.aR<=i then f (γ.wd i) else 0)=0;have:∀m,m<=γ.aR->Go.ConcN.sumTo m (fun i=>if γ.aR<=i then f (γ.wd i) else 0)=0:=by
   intro m
   induction m with
   | zero=>intro _;rfl
   | succ m aN=>
    intro hm;simp only [Go.ConcN.sumTo];rw [aN (by omega),if_neg (by omega)]
  exact this _ (Nat.le_refl _)
 exact {
  aR:=G.aR
  pos:=G.pos
  n0:=⟨by show 0<γ.aR;rw [G.aR];exact G.pos,by show γ.aR<=n;rw [G.aR];exact Nat.le_refl _⟩
  hi:=by rw [xH];exact H2.KR
  ji:=by
   refine ⟨G.ji.norel.app fun op aF=>by simp at aF;subst aF;simp,fun i h1 h2 e=> ?_,fun i h1 h2 _=>hL i h1 h2⟩;exfalso;have:γ.joined.eE (cC hs 0 ((hs 0).add γ.bk)) i=.jn:=by unfold ay.eE;rw [if_pos (show i<γ.joined.n0 by show i<γ.aR;rw [G.aR];exact h2)]
   rw [this] at e;cases e
  bH:=fun j ae kX=>by
   have e1:Deaf (t++#[{g:=0,fn,pos,act:=.mark (.acquire ⟨γ.wg,0,none⟩)}]) j=Deaf t j:=by rw [Deaf_push];simp [deafStep]
   rw [e1];exact G.bH j ae kX
  old:=fun j h1 h2=>x4 j h1 (by have:j<γ.aR:=h2;rw [G.aR] at this;exact this)
  jz:=fun h=>by cases h
  jd:=fun h=>by cases h
  gR:=fun h=>by cases h
  ok:=G.ok
  cap:=G.cap
  out:=G.out
  cw:=G.cw
  ll:=fun h=>by cases h
  full:=fun i h1 h2=>by have dy:γ.aR<=i:=h1;rw [G.aR] at dy;omega
  hl:=by
   refine ⟨?_,?_⟩
   ·show 0=γ.joined.dI ay.ic+(if jF.eR false=jF.eR true then 1 else 0);rw [xY];simp
   ·show 0=0/\0=0/\γ.joined.dI ay.gQ=0/\γ.joined.dI ay.hy=0;rw [xY,xY];exact ⟨rfl,rfl,rfl,rfl⟩
  eF:=fun j h0 ae=>by rw [gr _ _ (by omega)];exact G.eF j h0 ae
  os:=G.os
  jZ:=fun h=>by have:=G.j0 hn;have h':γ.ib=true:=h;rw [this] at h';cases h'
  j0:=fun h=>by cases h
  ku:=G.ku}
theorem aqx{N:Nat}{I:(Nat->List cT)->ab->Prop}{full:Nat->List cT}{ms:jF}{x:Array Value}(B:iZ s mu wg b0 ms 0 I full N)(hz:ms=.mU\/(ms=.loop/\s.wv=0))(aa:x=#[.pointer (some ⟨wg,0,none⟩)])
  (kk:∀γ cL bk,Idle γ->γ.aR=s.aR->I cL bk->bk.kR->(∀i,N<=i->i<s.aR->cL i=full i)->(∀b x,bk b=some x->h b=none)->K γ (h.add bk) (.tuple #[])):
  eX Tryz.prog true (SM tM tW os0 Post) 148 x s h (K:=⟨K⟩):=by
 subst aa;refine .inr (.inr fun b o aS xs hU aF jw=>zs fun a ops j rest k cs hk aA aQ hw γ n dX w t al cQ gx=>.inr ?_);subst aA;have R:=so al B.m.aR;have M2:=B.m.rel R;have iz:=(R.z rfl).2.2.1;have Y3:γ.ms=.mU\/(γ.ms=.loop/\γ.wv=0):=by
  rw [M2.ms];refine hz.imp_right fun h=>⟨h.1,?_⟩;have:=(R.z rfl).2.2.2.1;omega
 have cj:=tr (rest:=rest) (main:=true) (b:=b) (a:=a) (k:=k) (cs:=cs) (w:=w) (v:=.tuple #[]) (w':=w) (evs:=#[⟨.mark (.acquire ⟨wg,0,none⟩),false,true⟩]) aQ hw hk aF zD.f zD.name zD.body zD.next zD.find
  (by rw [jw];simp [Extern.Race.marked,Extern.Race.at_,Extern.Race.none_]) (by rw [jw];simp [Extern.Race.marked,Extern.Race.at_]) (by
   intro y ax;simp at ax;subst ax;exact ⟨rfl,fun g h=>by cases h⟩)
 obtain ⟨yB,Bf,D5,RS⟩:=cQ.join M2.on Y3 M2.bH (Conc.G (b.at a (.inRegion ops (j::rest)::k)) cs).frame.fn (Conc.G (b.at a (.inRegion ops (j::rest)::k)) cs).frame.place;rw [M2.wg,gx] at RS;obtain ⟨g1,g2⟩:=cQ.ll M2.on yB;rw [R.I,B.I] at g1;refine ⟨γ.joined,.tuple #[],w,_,h.add γ.bk,cj,RS,fun mG ae=>⟨?_,Iff.rfl⟩,fun mG h1 h2=> ?_,?_⟩
 ·by_cases hL:γ.aR<=mG
  ·exact .inl hL
  ·have:=D5 mG (by omega) (by rw [<- cQ.aR];omega);exact .inr (.inl ⟨ae,Nat.le_refl _,this,this⟩)
 ·exfalso;have dy:γ.waits mG:=h1;unfold ay.waits at dy;split at dy
  ·rcases Y3 with e|⟨e,_⟩<;>rw [e] at dy<;>cases dy.1
  ·rw [Bf mG] at dy;cases dy.1
 refine kk _ _ _ ⟨by show 0<γ.aR;exact M2.aR,rfl,rfl,cQ.j0 M2.on,rfl,⟨rfl,rfl,rfl⟩,M2.bH⟩ iz g1 g2 (fun i h1 h2=> ?_) ?_
 ·have dF:i<n:=by rw [<- cQ.aR,iz];exact h2
  have h0:0<i:=by have:=cQ.n0.1;rw [R.n0,B.n0] at this;omega
  rw [cQ.full i (by rw [R.n0,B.n0];exact h1) dF (by rw [D5 i h0 dF];simp),R.full,B.full]
 ·intro b x hb;cases hh:h b with
  | none=>rfl
  | some y=>
   exfalso;have hd:ek γ.gP b:=by unfold ay.gP;rw [if_pos ⟨M2.on,yB⟩];exact ⟨x,hb⟩
   rcases tp (hs:=dX) (j:=0) (b:=b) (x:=y) (by rw [gx];exact hh) with q|q
   ·exact cQ.hi.ex.nA 0 b q hd
   ·exact cQ.hi.ex.rf 0 b q hd
end
end
noncomputable def z1:Code:=Tryz.f96.body.getD .skip
def OD:Code:=bC z1
def G5:Code:=bC OD
def OE:Code:=bC G5
def G6:Code:=bC OE
def OF:Code:=bC G6
def OG:Code:=bC OF
def G7:Code:=bC OG
def Ce:Code:=bC G7
def G8:Code:=bC Ce
def Gs:Code:=bC G8
def aoh:Code:=bC Gs
def Nw:Code:=b1 Gs
def Xs:Code:=bC Nw
def aiD:=aT Xs (.cond _ .ret .skip) rfl
def aiE:=aT Nw (.seq (.region _ [_,_,_,_,_,_].toArray _) Xs) rfl
def aiF:=aT Gs (.seq Nw aoh) rfl
def Nx:Code:=b1 G8
def Ny:Code:=bC Nx
def aoi:Code:=b1 Ny
def aiG:=aT Ny (.cond _ aoi .skip) rfl
def aiH:=aT Nx (.seq (.region _ [_,_,_,_,_,_,_,_,_,_,_,_].toArray _) Ny) rfl
def alv:=aT G8 (.seq Nx Gs) rfl
def Nz:Code:=b1 Ce
def NA:Code:=bC Nz
def aoj:Code:=b1 NA
def aiI:=aT NA (.cond _ aoj .skip) rfl
def aiJ:=aT Nz (.seq (.region _ [_,_].toArray _) NA) rfl
def alw:=aT Ce (.seq Nz G8) rfl
def NB:Code:=b1 G7
def NC:Code:=bC NB
def Xt:Code:=b1 NC
def UW:=aT Xt (.region _ [_,_,_,_,_].toArray _) rfl
def UX:=aT NC (.cond _ Xt .skip) rfl
def aiK:=aT NB (.seq (.region _ [_,_,_,_,_,_,_,_,_,_].toArray _) NC) rfl
def alx:=aT G7 (.seq NB Ce) rfl
def aly:=aT OG (.seq (.region _ [_,_,_,_].toArray _) G7) rfl
def alz:=aT OF (.seq (.region _ [_,_,_,_].toArray _) OG) rfl
def ND:Code:=b1 G6
def NF:Code:=bC ND
def aok:Code:=b1 NF
def aiL:=aT NF (.cond _ aok .skip) rfl
def aiM:=aT ND (.seq (.region _ [_,_,_,_,_,_,_].toArray _) NF) rfl
def alA:=aT G6 (.seq ND OF) rfl
def Wj:=aT OE (.seq (.region _ [_,_,_,_,_,_,_,_].toArray _) G6) rfl
def NG:Code:=b1 G5
def NH:Code:=bC NG
def aol:Code:=b1 NH
def UY:=aT NH (.cond _ aol .skip) rfl
def UZ:=aT NG (.seq (.region _ [_].toArray _) NH) rfl
def alB:=aT G5 (.seq NG OE) rfl
def alC:=aT OD (.seq (.region _ [_].toArray _) G5) rfl
def NI:Code:=b1 z1
def Gt:Code:=b1 NI
def NJ:Code:=bC Gt
def Xu:Code:=bC NJ
def aiN:=aT Xu (.region _ [_].toArray _) rfl
def U0:=aT NJ (.seq (.region _ [_].toArray _) Xu) rfl
def NK:Code:=b1 Gt
def NL:Code:=bC NK
def aom:Code:=b1 NL
def aiO:=aT NL (.cond _ aom .skip) rfl
def aiP:=aT NK (.seq (.region _ [_,_].toArray _) NL) rfl
def aiQ:=aT Gt (.seq NK NJ) rfl
def aiR:=aT NI (.cond _ Gt .skip) rfl
def alD:=aT z1 (.seq NI OD) rfl
theorem aiS:Tryz.f96.body=some z1:=by kernel_rfl
theorem aon:ga 117 z1=true:=by kernel_rfl
noncomputable def zH:Code:=Tryz.f103.body.getD .skip
def NM:Code:=bC zH
def NN:Code:=b1 NM
def NO:Code:=b1 NN
def NP:Code:=b1 NO
def NQ:Code:=bC NP
def NR:Code:=bC NQ
def Gu:Code:=bC NR
def NS:Code:=bC Gu
def NT:Code:=bC NS
def BM:Code:=b1 NT
def Mb:Code:=bC BM
def FK:Code:=bC Mb
def Mc:Code:=bC FK
def Md:Code:=bC Mc
def FL:Code:=bC Md
def Me:Code:=bC FL
def Mf:Code:=b1 Me
def Mg:Code:=bC Mf
def alE:Code:=b1 Mg
def afZ:=aT Mg (.cond _ alE .skip) rfl
def af0:=aT Mf (.seq (.region _ [_].toArray _) Mg) rfl
def af1:=aT Me (.seq Mf .ret) rfl
def FM:Code:=b1 FL
def Mh:Code:=b1 FM
def Wk:Code:=bC Mh
def af2:=aT Wk (.region _ [_,_,_].toArray _) rfl
def af3:=aT Mh (.seq (.region _ [_].toArray _) Wk) rfl
def af4:=aT FM (.cond _ Mh .skip) rfl
def af5:=aT FL (.seq FM Me) rfl
def T2:=aT Md (.seq (.region _ [_,_,_,_,_,_].toArray _) FL) rfl
def af6:=aT Mc (.seq (.region _ [_,_,_,_,_].toArray _) Md) rfl
def Mi:Code:=b1 FK
def Mj:Code:=bC Mi
def alF:Code:=b1 Mj
def af7:=aT Mj (.cond _ alF .skip) rfl
def af8:=aT Mi (.seq (.region _ [_,_,_,_,_,_].toArray _) Mj) rfl
def af9:=aT FK (.seq Mi Mc) rfl
def aga:=aT Mb (.seq (.region _ [_].toArray _) FK) rfl
def Mk:Code:=b1 BM
def Ml:Code:=bC Mk
def Wl:Code:=b1 Ml
def agb:=aT Wl (.region _ [_,_,_,_,_].toArray _) rfl
def agc:=aT Ml (.cond _ Wl .skip) rfl
def agd:=aT Mk (.seq (.region _ [_,_,_,_].toArray _) Ml) rfl
def age:=aT BM (.seq Mk Mb) rfl
def U1:=aT NT (.cond _ BM .skip) rfl
def KS:=aT NS (.seq (.region _ [_,_,_,_,_,_,_].toArray _) NT) rfl
def Mm:Code:=b1 Gu
def Mn:Code:=bC Mm
def BN:Code:=b1 Mn
def Mo:Code:=bC BN
def Mp:Code:=b1 Mo
def Mq:Code:=bC Mp
def alG:Code:=b1 Mq
def agf:=aT Mq (.cond _ alG .skip) rfl
def agh:=aT Mp (.seq (.region _ [_,_,_,_,_,_,_,_,_,_,_].toArray _) Mq) rfl
def agi:=aT Mo (.seq Mp .ret) rfl
def FN:Code:=b1 BN
def Mr:Code:=b1 FN
def Wm:Code:=bC Mr
def agj:=aT Wm (.region _ [_,_,_].toArray _) rfl
def agk:=aT Mr (.seq (.region _ [_].toArray _) Wm) rfl
def agl:=aT FN (.cond _ Mr .skip) rfl
def agm:=aT BN (.seq FN Mo) rfl
def Ko:=aT Mn (.cond _ BN .skip) rfl
def agn:=aT Mm (.seq (.region _ [_,_].toArray _) Mn) rfl
def aiT:=aT Gu (.seq Mm NS) rfl
def aiU:=aT NR (.seq (.region _ [_,_,_,_].toArray _) Gu) rfl
def aiV:=aT NQ (.seq (.region _ [_,_,_,_].toArray _) NR) rfl
def U2:=aT NP (.seq (.region _ [_,_,_,_,_].toArray _) NQ) rfl
def aiW:=aT NO (.block _ NP) rfl
def aiX:=aT NN (.loop NO) rfl
def aiY:=aT NM (.block _ NN) rfl
def Ms:Code:=b1 zH
def Wn:Code:=b1 Ms
def ago:=aT Wn (.region _ [_].toArray _) rfl
def agp:=aT Ms (.cond _ Wn .skip) rfl
def aiZ:=aT zH (.seq Ms NM) rfl
theorem agq:Tryz.f103.body=some zH:=by kernel_rfl
theorem alH:ga 84 zH=true:=by kernel_rfl
noncomputable def Gv:Code:=Tryz.f134.body.getD .skip
def Xv:Code:=bC Gv
def U3:=aT Xv (.seq (.region _ [_,_,_,_,_,_].toArray _) .ret) rfl
def ai0:=aT Gv (.seq (.region _ [_].toArray _) Xv) rfl
theorem agr:Tryz.f134.body=some Gv:=by kernel_rfl
theorem alI:ga 10 Gv=true:=by kernel_rfl
noncomputable def Gw:Code:=Tryz.f136.body.getD .skip
def Xw:Code:=bC Gw
def U4:=aT Xw (.seq (.region _ [_,_,_,_,_].toArray _) .ret) rfl
def ai1:=aT Gw (.seq (.region _ [_].toArray _) Xw) rfl
theorem ags:Tryz.f136.body=some Gw:=by kernel_rfl
theorem alJ:ga 7 Gw=true:=by kernel_rfl
noncomputable def Gx:Code:=Tryz.f150.body.getD .skip
def Xx:Code:=bC Gx
def KT:=aT Xx (.seq (.region _ [_,_,_,_,_,_,_].toArray _) .ret) rfl
def ai2:=aT Gx (.seq (.region _ [_].toArray _) Xx) rfl
theorem agt:Tryz.f150.body=some Gx:=by kernel_rfl
theorem alK:ga 13 Gx=true:=by kernel_rfl
end
end Go.Nk
