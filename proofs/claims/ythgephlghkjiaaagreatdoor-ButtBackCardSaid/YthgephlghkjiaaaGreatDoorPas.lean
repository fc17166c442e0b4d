/- Part Pas of the proof of ButtBack: lemmas. -/
import Derived.Test.YthgephlghkjiaaaGreatDoorPar
set_option maxRecDepth 100000
set_option maxHeartbeats 4000000
set_option linter.all false
namespace Go.Nk
noncomputable section
open Go Go.Conc Go.Proofs
def k8(n:Nat)(e:Env):Env:=fun t=>if t<n then e t else undef
theorem Wt{n:Nat}{e:Env}:iH n ⟨Array.ofFn (n:=n) fun i=>e i,[]⟩ (k8 n e):=by
 refine ⟨by simp,fun t=> ?_⟩;rw [Array.getD_eq_getD_getElem?];unfold k8;by_cases aj:t<n
 ·rw [Array.getElem?_eq_getElem (by simpa using aj),if_pos aj];simp
 ·rw [Array.getElem?_eq_none (by simpa using aj),if_neg aj];rfl
theorem call106:bP Tryz.prog 106=true:=by kernel_rfl
theorem dw{x:Int}(h1: -100000<=x)(h2:x<=100000):IntKind.i64.wrap x=x:=by
 simp only [IntKind.wrap,IntKind.bits,IntKind.signed];simp;omega
theorem atp{h:ab}{b:Int}[K:KK Value]:au Tryz.prog (Builtin.max_ #[3,3] 3 #[.int .i64 0,.int .i64 b]) h=K.f (.int .i64 (max 0 b)) h:=by
 simp only [au,Builtin.max_,List.foldlM_cons,List.foldlM_nil,Builtin.max2,aV,bh];by_cases hb:b>0
 ·simp only [hb,if_true];rw [Int.max_eq_right (Int.le_of_lt hb)]
 ·simp only [hb,if_false];rw [Int.max_eq_left (by omega)]
section
variable{main:Bool}{ah:Type}{Sy:Sys ah}{s:ah}{h:ab}{b:bn}
theorem amb{mb:Nat}:bI Tryz.prog main Sy 106 #[.map (some mb)] s h fun ai h' v=>ai=s/\h.aD h'/\∃cm,v=.func (.func 153) #[] #[br cm]/\h' cm=some ⟨.cells #[.map (some mb)] 218 (0,0),true⟩:=by
 refine cc (n:=4) (args:=[.map (some mb)]) Tryz.func106 agx rfl (by simp) alW ?_;simp only [bc,undef,seval,ajg,ajf,p6,p7,w8];intro c hc;refine bT Tryz.results106 (by simp) ?_;exact ⟨rfl,hf hc,c,by simp [aZ,br],dd⟩
structure Used(es:Array MapEntry)(ck ns:Nat)(arr:Array Value)(kE sE:MapEntry->Int):Prop where
 born:∀e∈es,e.born<ck
 fK:(es.toList.map (·.born)).Nodup
 key:∀e∈es,e.key=.int .i64 (kE e)
 k0:∀e∈es,0<=kE e/\kE e<ns
 val:∀e∈es,arr[(kE e).toNat*4+3]? =some (.int .i64 (sE e))
 bm:∀e∈es,0<=sE e
 top:jL sE es.toList<=1000
theorem agC{e:Env}{gb stb ns eT mb ck n c:Nat}{a:Option Addr}{arr:Array Value}{x:Value}{o1 o2 pT:Bool}{es:Array MapEntry}{kE sE:MapEntry->Int}{gS:ah->ab->Value->Prop}(e1:e 1=.slice a n c)(e2:e 2=br gb)(e5:e 5=.map (some mb))
  (aG:h gb=some ⟨.cells #[.slice (some ⟨stb,0,none⟩) ns eT,x] 137 (0,0),o1⟩) (cj:h stb=some ⟨.cells arr 51 (0,0),o2⟩) (wi:h mb=some ⟨.map es ck,pT⟩) (U:Used es ck ns arr kE sE) (ao:n<=1000)
  (azv:∀h',h.aD h'->gS s h' (.int .i64 (max 0 ((n:Int)- jL sE es.toList)))):
  cF Tryz.prog main Sy 48 (fE 68) Cg (fun x=>match x with|.ext _=>fun _ _ _ _=>False|_=>er Tryz.prog Tryz.f68 gS 48) e [] s h:=by
 simp only [bc,undef,seval,alU,alT,alS];rw [wV (K:=⟨_⟩) z3];intro c10 Cu;rw [show (Value.int .i64 0).cells=#[.int .i64 0] from rfl];have atq:∀K:ab->Prop,au Tryz.prog (Instr.storeAt 3 (.pointer (some ⟨c10,0,none⟩)) (.int .i64 0)) (h.put c10 ⟨.cells #[.int .i64 0] 3,true⟩) (K:=⟨fun _=>K⟩)=K ((h.put c10 ⟨.cells #[.int .i64 0] 3,true⟩).put c10 ⟨.cells #[.int .i64 0] 3 (0,0),true⟩):=fun K=>Pt fQ rfl rfl dd K;simp only [bc,undef,seval,atq,qc,e5];generalize Dl:h.put c10 ⟨.cells #[.int .i64 0] 3 (0,0),true⟩=h1;have bx:h.aD h1:=by rw [<- Dl];exact hf Cu
 have g10:h1 c10=some ⟨.cells #[.int .i64 0] 3 (0,0),true⟩:=by rw [<- Dl,dd]
 refine .inl ⟨call106,(amb (main:=main) (Sy:=Sy) (s:=s) (h:=h1) (mb:=mb)).mono fun s2 h2 v2 q=> ?_⟩;obtain ⟨rfl,bM,cm,rfl,nJ⟩:=q;simp only [bc,undef,seval,alR,alQ];refine JY (x:=#[]) (y:=#[br cm]) call153 rfl (by simp) (by simp [aZ,aS]) ?_;refine J0 fun r al l qK af=> ?_;generalize hF:({state:=.ready,pending:=none,fn:=68,tmps:=_,params:=#[33],assign:=Hb,body:=B0,defers:=r}:Loop)=L;have te:L.state=.ready:=by rw [<- hF]
 have wG:L.pending=none:=by rw [<- hF]
 have D8:L.fn=68:=by rw [<- hF]
 have D9:L.params=#[33]:=by rw [<- hF]
 have Bj:L.assign=Hb:=by rw [<- hF]
 have Bl:L.body=B0:=by rw [<- hF]
 generalize jm:(upd _ 32 _:Env)=e' at hF ⊢;have w1:e' 1=.slice a n c:=by rw [<- jm];simp [aZ,e1]
 have w2:e' 2=br gb:=by rw [<- jm];simp [aZ,e2]
 have aaQ:e' 10=br c10:=by rw [<- jm];simp [aZ,br]
 have Bm:iH 48 ⟨L.tmps,[]⟩ (k8 48 e'):=by rw [<- hF];exact Wt
 clear hF jm;have bK:h2.aD ((h2.put r ⟨.deferred (some []),true⟩).put l ⟨.loop L,true⟩):=le_trans (hf al) (hf (by rw [cG qK];exact af));generalize o7:(h2.put r ⟨.deferred (some []),true⟩).put l ⟨.loop L,true⟩=h3 at bK ⊢;have pW:h3 l=some ⟨.loop L,true⟩:=by rw [<- o7,dd]
 have wH:h3 r=some ⟨.deferred (some []),true⟩:=by rw [<- o7,cG (Ne.symm qK),dd]
 have pG:=le_trans bM bK;have HK:=le_trans bx pG;have old:∀y z,h y=some z->y≠c10:=fun y z ax e=>by subst e;rw [Cu] at ax;cases ax
 have nl:l≠c10:=fun e=>by subst e;rw [pG _ _ g10] at pW;cases pW
 have nr:r≠c10:=fun e=>by subst e;rw [pG _ _ g10] at wH;cases wH
 refine bI.mono (fun ai h' v q=> ?_) (aoz (main:=main) (Sy:=Sy) (s:=s2) (l:=l) (cm:=cm) (mb:=mb) (ck:=ck) (c10:=c10) (sE:=sE) (kE:=kE) (total:=jL sE es.toList) pW D9 (bK _ _ nJ) (HK _ _ wi) U.born U.fK U.key (pG _ _ g10) rfl (fun h4 acc cR oY pX hc hb=> ?_) U.bm)
 ·obtain ⟨rfl,pX,hc⟩:=q;rw [KP (pX l _ nl pW) te];refine ⟨wG,?_⟩;have Qr:∀(b:bn) (K:ah->ab->Value->Prop),@fa Tryz.prog main _ Sy b 3 (.pointer (some ⟨c10,0,none⟩)) ai (h'.put l ⟨.loop {L with state:=.exhausted},true⟩) ⟨K⟩=K ai (h'.put l ⟨.loop {L with state:=.exhausted},true⟩) (.int .i64 (jL sE es.toList)):=fun b K=>jN (K:=⟨K⟩) xZ (A:=⟨c10,0,none⟩) (by rw [cG (Ne.symm nl)];exact hc) rfl rfl;simp only [bc,undef,seval,alO,w1,aaQ,br,ato,Qr,wZ,atp];have atr:r≠l:=Ne.symm qK;show kF Tryz.prog [{target:=.collected r,args:=#[]}] _ _;simp only [kF];refine JG (by rw [cG atr];exact pX r _ nr wH) fun h6 RU=>⟨rfl,?_⟩;refine (bT (P:=Tryz.prog) (fn:=Tryz.f68) (t:=4) (n:=48) (Post:=gS) Tryz.results68 (by omega) ?_:er Tryz.prog Tryz.f68 gS 48 _ [] ai h6);have hs:=U.bm;have aA7:0<=jL sE es.toList:=by
   have key:∀l:List MapEntry,(∀e∈l,0<=sE e)->0<=jL sE l:=by
    intro l
    induction l with
    | nil=>intro _;simp [jL]
    | cons c l aN=>
     intro hh;have h1:=hh c (by simp);have h2:=aN fun e he=>hh e (by simp [he]);simp only [jL,List.map_cons,List.sum_cons] at h2 ⊢;omega
   exact key _ fun e he=>hs e (by simpa using he)
  have ats:=U.top;rw [dw (by omega) (by omega)];simp only [aZ,Nat.reduceEqDiff,if_true,if_false,reduceIte];refine azv h6 fun y z ax=> ?_;have db:y≠l:=fun e=>by subst e;rw [bM _ _ (bx _ _ ax)] at af;cases af
  have dB:y≠r:=fun e=>by subst e;rw [bM _ _ (bx _ _ ax)] at al;cases al
  exact RU y z dB (by rw [cG db];exact pX y z (old y z ax) (HK _ _ ax))
 ·rw [D8,Bj,Bl];have aaR:=pX l _ nl pW;have r:=r7 (dst:=some 33) Bm (by decide) (.int .i64 (kE cR));refine JZ (n:=48) (e:=upd (k8 48 e') 33 (.int .i64 (kE cR))) r (by kernel_rfl) (by kernel_rfl) ?_;simp only [bc,undef,seval,alP];rw [JR aaR te];simp only [bc,undef,seval,ai7,ai6];intro t;have db:∀y z,h y=some z->y≠l:=fun y z ax e=>by subst e;rw [bM _ _ (bx _ _ ax)] at af;cases af
  obtain ⟨rest,vT,Y9,AV⟩:=hb;have hs:=U.bm cR oY;have ats:=U.top;have c4:(h4.put l ⟨.loop {L with state:=.busy},true⟩) c10=some ⟨.cells #[.int .i64 acc] 3 (0,0),true⟩:=by rw [cG (Ne.symm nl)];exact hc
  refine aef (c10:=c10) (gb:=gb) (stb:=stb) (ns:=ns) (eT:=eT) (arr:=arr) (x:=x) (a:=acc) (k:=kE cR) (q:=sE cR) (o1:=o1) (o2:=o2) (by simp [aZ,k8,w2]) (by simp [aZ,k8,aaQ]) (by simp [aZ]) c4
   (by rw [cG (db gb _ aG)];exact pX gb _ (old gb _ aG) (HK _ _ aG)) (by rw [cG (db stb _ cj)];exact pX stb _ (old stb _ cj) (HK _ _ cj)) (U.k0 cR oY).1 (U.k0 cR oY).2 (U.val cR oY) (dw (by omega) (by omega)) (old gb _ aG) (old stb _ cj) (fun e6 h6 rQ g6=> ?_) t
  simp only [bc,undef,seval];show bf Tryz.prog (Instr.endRound l none) h6 _;rw [EN (rQ l _ nl dd)];refine ⟨trivial,rfl,fun y z ax aH=> ?_,by rw [cG (Ne.symm nl)];exact g6⟩;by_cases Q0:y=l
  ·subst Q0;rw [aaR] at aH;cases aH;rw [dd,show ({({L with state:=.busy}:Loop) with state:=.ready,pending:=none}:Loop)=L by
    obtain ⟨⟩:=L;simp_all]
  ·rw [cG Q0];exact rQ y z ax (by rw [cG Q0];exact aH)
end
theorem sr:Tryz.prog.underlying 9=some .string:=by kernel_rfl
def js(l:List UInt8):Bool:=(decide ((1:Int)<=l.length)&&decide ((l.length:Int)<=12))&&((match l with|[]=>false|w::_=>isLet w)&&l.all fun w=>isLet w||kM w)
theorem Mw{ty:TypeId}{h:ab}{l:List UInt8}[K:KK Value]:au Tryz.prog (Builtin.len_ #[9] ty #[aW l]) h=K.f (.int .i64 l.length) h:=ale sr
theorem kj{h:ab}{l:List UInt8}{k:IntKind}{i:Int}[K:KK Value]:au Tryz.prog (Instr.index 9 (aW l) (.int k i)) h=(0<=i/\@Dc l[i.toNat]? ⟨fun v=>K.f v h⟩):=anP sr
section
variable{main:Bool}{ah:Type}{S:Sys ah}
theorem Vf(l:List UInt8):Pure Tryz.prog main S 50 #[aW l] (.bool (js l)):=by
 intro s h;refine cc (args:=[aW l]) Tryz.func50 (by delta Tryz.f50;rfl) Tryz.ntmps50 (by simp) (by kernel_rfl) ?_;simp only [bc,seval,Mw];refine eQ call47 (pF _ _ _ _ _) ?_;cases aE:(decide ((1:Int)<=l.length)&&decide ((l.length:Int)<=12)) with
 | false=>
  simp only [bc,seval];refine bT Tryz.results50 (by simp) ?_;simp [aZ,js,aE]
 | true=>
  cases l with
  | nil=>simp at aE
  | cons w r=>
  generalize el:w::r=l at aE;have h0:l[0]? =some w:=by rw [<- el];rfl
  simp only [bc,seval,kj,h0,nV,true_and,Int.le_refl];refine eQ call86 (UO w _ _) ?_;cases hw:isLet w with
  | false=>
   simp only [bc,seval];refine bT Tryz.results50 (by simp) ?_;simp [aZ,js,aE,<- el,hw]
  | true=>
   simp only [bc,seval];have ao:js l=l.all (fun w=>isLet w||kM w):=by unfold js;rw [aE];rw [<- el];simp [hw]
   have hlen:l.length<=12:=by simp at aE;omega
   refine eG (I:=fun m e d ai h'=>∃i:Nat,m=l.length- i/\i<=l.length/\e 0=aW l/\e 3=.int .i64 i/\d=[]/\ai=s/\h'=h/\(l.take i).all (fun w=>isLet w||kM w)=true) (fun m e d ai h' bU=> ?_) (m:=l.length) ⟨0,by simp,by omega,by simp [ak],by simp [ak],rfl,rfl,rfl,by simp⟩;obtain ⟨i,rfl,hi,e0,e3,rfl,rfl,rfl,aA⟩:=bU;simp only [bc,seval,e0,e3,Mw];rcases Nat.lt_or_ge i l.length with hc|hc
   ·have aa:l[(i:Int).toNat]? =some l[i]:=by simp
    have step:l.take (i+1)=l.take i++[l[i]]:=by simp
    generalize l[i]=x at aa step;simp only [bc,seval,e0,e3,decide_eq_true (show (i:Int)<l.length by omega),kj,aa,nV];refine ⟨by omega,eQ call86 (UO x _ _) ?_⟩;cases af:isLet x with
    | true=>
     simp only [bc,seval,e0,e3];refine ⟨_,?_,i+1,rfl,by omega,by simp [ak,e0],?_,rfl,rfl,rfl,?_⟩
     ·omega
     ·simp [ak,dw (x:=(i:Int)+1) (by omega) (by omega)]
     ·rw [step];simp [af,aA]
    | false=>
     simp only [bc,seval,e0,e3,kj,aa,nV];refine ⟨by omega,eQ call87 (alg x _ _) ?_⟩;cases hd:kM x with
     | true=>
      simp only [bc,seval,e0,e3];refine ⟨_,?_,i+1,rfl,by omega,by simp [ak,e0],?_,rfl,rfl,rfl,?_⟩
      ·omega
      ·simp [ak,dw (x:=(i:Int)+1) (by omega) (by omega)]
      ·rw [step];simp [hd,aA]
     | false=>
      simp only [bc,seval,e0,e3];refine bT Tryz.results50 (by simp) ?_;have:l.all (fun w=>isLet w||kM w)=false:=by
       have hm:x∈l:=List.mem_of_getElem? aa;rw [List.all_eq_false];exact ⟨x,hm,by simp [af,hd]⟩
      simp [ak,ao,this]
   ·have:i=l.length:=by omega
    subst this;simp only [bc,seval,e0,e3,decide_eq_false (show ¬((l.length:Nat):Int)<l.length by omega)];refine bT Tryz.results50 (by simp) ?_;rw [List.take_length] at aA;simp [ak,ao,aA]
end
section
variable{P:Program}{main:Bool}{ah:Type}{S:Sys ah}{b:bn}
def eU(P:Program)(main:Bool){ah:Type}(S:Sys ah)(b:bn)(ty:TypeId)(op:Op)(f:Operand->Value)(s:ah)(h:ab)(K:ah->ab->Value->Prop):Prop:=
 match op with
 | .move x=>@bE _ _ (f x) ⟨fun v=>K s h v⟩
 | .assign x=>@bE _ _ (f x) ⟨fun v=>K s h v⟩
 | .pick c x y=>@bE _ _ (f c) ⟨fun qS=>@bE _ _ (f x) ⟨fun bS=>@bE _ _ (f y) ⟨fun eS=>@au P _ (xe qS bS eS) h ⟨fun v h=>K s h v⟩⟩⟩⟩
 | .load t x=>@bE _ _ (f x) ⟨fun bS=>@fa P main _ S b t bS s h ⟨fun s h v=>K s h v⟩⟩
 | .binOp op xt x y _=>@bE _ _ (f x) ⟨fun bS=>@bE _ _ (f y) ⟨fun eS=>@au P _ (cr op xt x y bS eS) h ⟨fun v h=>K s h v⟩⟩⟩
 | .unOp op _ x=>@bE _ _ (f x) ⟨fun bS=>@au P _ (Op.unary op bS) h ⟨fun v h=>K s h v⟩⟩
 | .fieldAddr t x i=>@bE _ _ (f x) ⟨fun bS=>@au P _ (Instr.fieldAt t bS i) h ⟨fun v h=>K s h v⟩⟩
 | .indexAddr t x y=>@bE _ _ (f x) ⟨fun bS=>@bE _ _ (f y) ⟨fun eS=>@au P _ (Instr.indexAt t bS eS) h ⟨fun v h=>K s h v⟩⟩⟩
 | .index t x y=>@bE _ _ (f x) ⟨fun bS=>@bE _ _ (f y) ⟨fun eS=>@au P _ (Instr.index t bS eS) h ⟨fun v h=>K s h v⟩⟩⟩
 | .slice t x lo hi bB=>@bE _ _ (f x) ⟨fun bS=>@au P _ (Instr.sliceAt t bS (lo.map f) (hi.map f) (bB.map f)) h ⟨fun v h=>K s h v⟩⟩
 | .nilCheck x=>@bE _ _ (f x) ⟨fun bS=>@au P _ (xz bS) h ⟨fun ar h=>match ar with|.value v=>K s h v|_=>False⟩⟩
 | .build t bF=>@au P _ (Instr.build t ((bF.toList.map fun p=>(p.1,f p.2)).toArray)) h ⟨fun v h=>K s h v⟩
 | .makeInterface t x=>@bE _ _ (f x) ⟨fun bS=>@au P _ (Instr.makeInterface t bS) h ⟨fun v h=>K s h v⟩⟩
 | .call ⟨.value (.func g),tf,_⟩=>@eX P main _ S g ((tf.toList.map f).toArray) s h ⟨fun s h v=>K s h v⟩
 | .call ⟨.builtin .len,tf,dN⟩=>@au P _ (Builtin.len_ dN ty ((tf.toList.map f).toArray)) h ⟨fun v h=>K s h v⟩
 | _=>False
def vj:Op->Bool
 | .move _|.assign _|.pick _ _ _|.load _ _|.binOp _ _ _ _ _|.unOp _ _ _|.fieldAddr _ _ _|.indexAddr _ _ _|.index _ _ _|.slice _ _ _ _ _|.nilCheck _|.build _ _|.makeInterface _ _=>true
 | .call ⟨.value (.func _),_,_⟩=>true
 | .call ⟨.builtin .len,_,_⟩=>true
 | _=>false
def mW:Operand->List Nat
 | .tmp t=>[t]
 | _=>[]
def HL:Option Operand->List Nat
 | some x=>mW x
 | none=>[]
def iQ:Op->List Nat
 | .move x|.assign x|.load _ x|.nilCheck x|.unOp _ _ x|.fieldAddr _ x _|.makeInterface _ x=>mW x
 | .build _ bF=>bF.toList.flatMap fun p=>mW p.2
 | .pick c x y=>mW c++mW x++mW y
 | .binOp _ _ x y _|.indexAddr _ x y|.index _ x y=>mW x++mW y
 | .slice _ x lo hi bB=>mW x++HL lo++HL hi++HL bB
 | .call ⟨.value (.func _),tf,_⟩=>tf.toList.flatMap mW
 | .call ⟨.builtin .len,tf,_⟩=>tf.toList.flatMap mW
 | _=>[]
theorem E7{o:Oper}(hc:vj o.op=true){e:Env}{d:List Deferred}{s:ah}{h:ab}{N:Env->List Deferred->ah->ab->Prop}
  (u:eU P main S b o.type o.op (aS e) s h fun s h v=>N (cv e o.dst v) d s h):b3 P main S b o e d s h N:=by
 obtain ⟨dst,op,ty,pos,RN,bk⟩:=o;cases op<;>first|exact (Bool.false_ne_true hc).elim|exact u|skip
 case nilCheck x=>
  refine Go.Nk.oF P _ (fun ar h q=> ?_) u;cases ar<;>first|exact q|cases q
 rename_i c;obtain ⟨c,tf,dN⟩:=c;cases c with
 | value x=>cases x<;>first|exact (Bool.false_ne_true hc).elim|exact u
 | invoke=>exact (Bool.false_ne_true hc).elim
 | builtin q=>cases q<;>first|exact (Bool.false_ne_true hc).elim|exact u
theorem kl{e E:Env}{x:Operand}(h:∀t∈mW x,e t=E t):aS e x=aS E x:=by
 cases x<;>first|rfl|exact h _ (by simp [mW])
theorem Mx{e E:Env}{x:Option Operand}(h:∀t∈HL x,e t=E t):x.map (aS e)=x.map (aS E):=by
 cases x with
 | none=>rfl
 | some x=>exact congrArg some (kl h)
theorem My{e E:Env}:∀{l:List Operand},(∀t∈l.flatMap mW,e t=E t)->l.map (aS e)=l.map (aS E)
 | [],_=>rfl
 | x::l,h=>by
  rw [List.map_cons,List.map_cons,kl fun t aj=>h t (by simp [aj]),My fun t aj=>h t (by rw [List.flatMap_cons];exact List.mem_append_right _ aj)]
theorem Wu{e E:Env}:∀{l:List (Nat×Operand)},(∀t∈l.flatMap (fun p=>mW p.2),e t=E t)->(l.map fun p=>(p.1,aS e p.2))=l.map fun p=>(p.1,aS E p.2)
 | [],_=>rfl
 | x::l,h=>by
  rw [List.map_cons,List.map_cons,kl fun t aj=>h t (by simp [aj]),Wu fun t aj=>h t (by rw [List.flatMap_cons];exact List.mem_append_right _ aj)]
theorem zf{ty:TypeId}{op:Op}(hc:vj op=true){e E:Env}(al:∀t∈iQ op,e t=E t){s:ah}{h:ab}{K:ah->ab->Value->Prop}:eU P main S b ty op (aS e) s h K=eU P main S b ty op (aS E) s h K:=by
 cases op<;>first|exact (Bool.false_ne_true hc).elim|skip
 case call c=>
  obtain ⟨c,tf,dN⟩:=c;cases c with
  | value x=>cases x<;>first|exact (Bool.false_ne_true hc).elim|(simp only [eU];rw [My al])
  | invoke=>exact (Bool.false_ne_true hc).elim
  | builtin q=>cases q<;>first|exact (Bool.false_ne_true hc).elim|(simp only [eU];rw [My al])
 case move x=>simp only [eU];rw [kl al]
 case build t bF=>simp only [eU];rw [Wu al]
 case makeInterface t x=>simp only [eU];rw [kl al]
 case assign x=>simp only [eU];rw [kl al]
 case load t x=>simp only [eU];rw [kl al]
 case nilCheck x=>simp only [eU];rw [kl al]
 case unOp u t x=>simp only [eU];rw [kl al]
 case fieldAddr t x i=>simp only [eU];rw [kl al]
 case pick c x y=>simp only [eU];rw [kl (x:=c) fun t aj=>al t (by simp [iQ,aj]),kl (x:=x) fun t aj=>al t (by simp [iQ,aj]),kl (x:=y) fun t aj=>al t (by simp [iQ,aj])]
 case binOp u t x y z=>simp only [eU];rw [kl (x:=x) fun t aj=>al t (by simp [iQ,aj]),kl (x:=y) fun t aj=>al t (by simp [iQ,aj])]
 case indexAddr t x y=>simp only [eU];rw [kl (x:=x) fun t aj=>al t (by simp [iQ,aj]),kl (x:=y) fun t aj=>al t (by simp [iQ,aj])]
 case index t x y=>simp only [eU];rw [kl (x:=x) fun t aj=>al t (by simp [iQ,aj]),kl (x:=y) fun t aj=>al t (by simp [iQ,aj])]
 case slice t x lo hi bB=>simp only [eU];rw [kl (x:=x) fun t aj=>al t (by simp [iQ,aj]),Mx (x:=lo) fun t aj=>al t (by simp [iQ,aj]),Mx (x:=hi) fun t aj=>al t (by simp [iQ,aj]),Mx (x:=bB) fun t aj=>al t (by simp [iQ,aj])]
theorem aju{A:Addr}{h:ab}{s:ah}{K:ah->ab->Value->Prop}:@au P _ (xz (.pointer (some A))) h ⟨fun ar h=>match ar with|.value v=>K s h v|_=>False⟩=K s h (.pointer (some A)):=rfl
def att(l:List Oper)(o:Oper):Bool:=(iQ o.op).all fun t=>(l.all fun aO=>aO.dst != some t)||(o.after.toList.any fun x=>Region.binds .any x&&((l[x.on]?).bind (·.dst)==some t))
def GD(l:List Oper):Bool:=od l&&nu 0 l&&l.all fun o=>vj o.op&&att l o
def He(o:Option Nat)(E:Env)(v:Value):Prop:=match o with|some t=>v=E t|none=>True
theorem Ti{t:Nat}{E:Env}{v:Value}:He (some t) E v=(v=E t):=rfl
def Hf(P:Program)(main:Bool){ah:Type}(S:Sys ah)(b:bn)(E:Env)(s:ah)(h0:ab):List Oper->Prop
 | []=>True
 | o::l=>(∀h,h0.aD h->eU P main S b o.type o.op (aS E) s h fun ai h' v=>ai=s/\h.aD h'/\He o.dst E v)/\Hf P main S b E s h0 l
theorem T6{E:Env}{s:ah}{h0:ab}:∀{l:List Oper},Hf P main S b E s h0 l->∀{i:Nat} {o:Oper},l[i]? =some o->∀h,h0.aD h->eU P main S b o.type o.op (aS E) s h fun ai h' v=>ai=s/\h.aD h'/\He o.dst E v
 | [],_,i,o,hi=>by simp at hi
 | a::l,u,i,o,hi=>by
  cases i with
  | zero=>simp at hi;subst hi;exact u.1
  | succ i=>exact T6 u.2 (by simpa using hi)
theorem y7{ty:TypeId}{op:Op}{f:Operand->Value}{s:ah}{h:ab}{K M:ah->ab->Value->Prop}(k:∀s h v,K s h v->M s h v)(u:eU P main S b ty op f s h K):eU P main S b ty op f s h M:=by
 have jC:∀{α:Type} (m:Sem α) {K M:KK α},(∀v h,K.f v h->M.f v h)->@au P _ m h K->@au P _ m h M:=by
  intro α m K M k u;exact Go.Nk.oF P _ k u
 cases op<;>first|exact u.elim|skip
 case call c=>
  obtain ⟨c,tf,dN⟩:=c;cases c with
  | value x=>cases x<;>first|exact u.elim|exact eX.mono (K:=⟨fun s h v=>K s h v⟩) (L:=⟨fun s h v=>M s h v⟩) (fun s h v=>k s h v) u
  | invoke=>exact u.elim
  | builtin q=>cases q<;>first|exact u.elim|exact jC _ (fun v h=>k _ h v) u
 case load t x=>exact fa.mono (K:=⟨fun s h v=>K s h v⟩) (L:=⟨fun s h v=>M s h v⟩) (fun s h v=>k s h v) u
 case nilCheck x=>
  refine jC _ (fun ar h q=> ?_) u;cases ar<;>first|exact k _ _ _ q|exact q.elim
 case move x=>exact k _ _ _ u
 case assign x=>exact k _ _ _ u
 all_goals exact jC _ (fun v h=>k _ h v) u
theorem agD{l:List Oper}{d:List Deferred}{N:Env->List Deferred->ah->ab->Prop}(lR:P.follows .mixedOrders=true)(cW:GD l=true){e0:Env}{s:ah}{h0:ab}(E:Env)(bO:∀t,l.all (fun aO=>aO.dst != some t)=true->E t=e0 t)
  (st:Hf P main S b E s h0 l) (fin:∀h,h0.aD h->N E d s h) (t:Nat):gk P main S b l.toArray (Region.schedule (P.follows .mixedOrders) l.toArray t) e0 d s h0 N:=by
 simp only [GD,Bool.and_eq_true] at cW;obtain ⟨⟨h1,h2⟩,h3⟩:=cW;refine EO h1 h2 lR l.length (fun _ i v _=>∀bt,(l[i]?).bind (·.dst)=some bt->v=E bt) (fun _ _ _ _ _ _ q=>q) (fun _ ai=>ai=s) (fun _ _=>False) (fun _ _ _ q=>q.elim) (fun _ _ _ _ q=>q.elim) rfl ?_ ?_ t
 ·intro i o hi e ai h le un c aH _ pre;subst aH;have hm:=List.all_eq_true.1 h3 o (List.mem_of_getElem? hi);simp only [Bool.and_eq_true] at hm;have al:∀t∈iQ o.op,e t=E t:=fun t aj=>by
   have:=List.all_eq_true.1 hm.2 t aj;simp only [Bool.or_eq_true] at this;rcases this with q|q
   ·rw [un t q,bO t q]
   ·rw [List.any_eq_true] at q;obtain ⟨x,aa,q⟩:=q;simp only [Bool.and_eq_true,beq_iff_eq] at q;exact pre x.on t (List.any_eq_true.2 ⟨x,aa,by simp [q.1]⟩) q.2 t q.2
  have b7:i≠l.length:=fun e=>by subst e;simp at hi
  refine E7 hm.1 ?_;rw [zf hm.1 al];refine y7 (fun s2 h2 v ⟨r1,r2,r3⟩=>⟨rfl,v,rfl,?_⟩) (T6 st hi h le);rw [if_neg b7];refine ⟨r1,r2,fun bt gh=> ?_⟩;rw [hi] at gh;have lk:o.dst=some bt:=gh;rw [lk] at r3;exact r3
 ·intro e ai h le un q aH;subst aH;have:e=E:=by
   funext bt;by_cases aj:l.all (fun aO=>aO.dst != some bt)=true
   ·rw [un bt aj,bO bt aj]
   ·rw [Bool.not_eq_true,List.all_eq_false] at aj;obtain ⟨o,aQ,hd⟩:=aj;obtain ⟨i,hi⟩:=List.mem_iff_getElem?.1 aQ;have fo:o.dst=some bt:=by simpa using hd
    have hb:(l[i]?).bind (·.dst)=some bt:=by rw [hi];exact fo
    exact q i bt hb bt hb
  subst this;exact fin h le
def vo(P:Program)(main:Bool){ah:Type}(S:Sys ah)(b:bn)(s:ah)(h0:ab):List Oper->Env->(Env->Prop)->Prop
 | [],e,N=>N e
 | o::l,e,N=>∃v,(∀h,h0.aD h->eU P main S b o.type o.op (aS e) s h fun ai h' bQ=>ai=s/\h.aD h'/\bQ=v)/\vo P main S b s h0 l (cv e o.dst v) N
def HM:List Oper->Bool
 | []=>true
 | o::l=>((iQ o.op).all fun t=>(o::l).all fun aO=>aO.dst != some t)&&vj o.op&&HM l
theorem Wv{s:ah}{h0:ab}:∀{l:List Oper} {e:Env} {N:Env->Prop},HM l=true->od l=true->vo P main S b s h0 l e N->∃E:Env,(∀t,l.all (fun aO=>aO.dst != some t)=true->E t=e t)/\N E/\Hf P main S b E s h0 l
 | [],e,N,_,_,u=>⟨e,fun _ _=>rfl,u,trivial⟩
 | o::l,e,N,h1,h2,⟨v,aI,u⟩=>by
  simp only [HM,od,Bool.and_eq_true] at h1 h2;obtain ⟨E,k1,bX,eL⟩:=Wv h1.2 h2.2 u;refine ⟨E,fun t aj=> ?_,bX,fun h le=> ?_,eL⟩
  ·simp only [List.all_cons,Bool.and_eq_true] at aj;rw [k1 t aj.2];cases hd:o.dst with
   | none=>rfl
   | some d=>rw [cM,aZ,if_neg (fun e=>by rw [hd,e] at aj;simp at aj)]
  ·have al:∀t∈iQ o.op,E t=e t:=fun t aj=>by
    have:=List.all_eq_true.1 h1.1.1 t aj;simp only [List.all_cons,Bool.and_eq_true] at this;rw [k1 t this.2];cases hd:o.dst with
    | none=>rfl
    | some d=>rw [cM,aZ,if_neg (fun e=>by rw [hd,e] at this;simp at this)]
   rw [zf h1.1.2 al];refine y7 (fun ai h' bQ ⟨r1,r2,r3⟩=>⟨r1,r2,?_⟩) (aI h le);cases hd:o.dst with
   | none=>trivial
   | some d=>
    rw [Ti,r3,k1 d ?_,hd,cM,aZ,if_pos rfl];have:=h2.1.2;rw [hd] at this;simpa using this
theorem p8{l:List Oper}{d:List Deferred}{N:Env->List Deferred->ah->ab->Prop}(lR:P.follows .mixedOrders=true)(cW:GD l=true)(aP:HM l=true){e0:Env}{s:ah}{h0:ab}
  (u:vo P main S b s h0 l e0 fun E=>∀h,h0.aD h->N E d s h) (t:Nat):gk P main S b l.toArray (Region.schedule (P.follows .mixedOrders) l.toArray t) e0 d s h0 N:=by
 have HB:=cW;simp only [GD,Bool.and_eq_true] at HB;obtain ⟨E,k1,bX,eL⟩:=Wv aP HB.1.1 u;exact agD lR cW E k1 eL bX t
end
section
variable{P:Program}{main:Bool}{ah:Type}{S:Sys ah}{b:bn}{s:ah}{h h0:ab}{f:Operand->Value}{K:ah->ab->Value->Prop}{ty t1 i k:Nat}{a a1 a2 a3:Operand}{op:BinOp}{C8:UnOp}{lo hi bB:Option Operand}{xs:Array Operand}{dN:Array Nat}{l:List Oper}{e:Env}{N:Env->Prop}{o:Oper}
theorem aoF:eU P main S b ty (.move a) f s h K=@bE _ _ (f a) ⟨fun v=>K s h v⟩:=rfl
theorem ajv:eU P main S b ty (.assign a) f s h K=@bE _ _ (f a) ⟨fun v=>K s h v⟩:=rfl
theorem aoG:eU P main S b ty (.pick a1 a2 a3) f s h K=@bE _ _ (f a1) ⟨fun qS=>@bE _ _ (f a2) ⟨fun bS=>@bE _ _ (f a3) ⟨fun eS=>@au P _ (xe qS bS eS) h ⟨fun v h=>K s h v⟩⟩⟩⟩:=rfl
theorem aoH:eU P main S b ty (.load t1 a) f s h K=@bE _ _ (f a) ⟨fun bS=>@fa P main _ S b t1 bS s h ⟨fun s h v=>K s h v⟩⟩:=rfl
theorem aqM:eU P main S b ty (.binOp op t1 a1 a2 i) f s h K=@bE _ _ (f a1) ⟨fun bS=>@bE _ _ (f a2) ⟨fun eS=>@au P _ (cr op t1 a1 a2 bS eS) h ⟨fun v h=>K s h v⟩⟩⟩:=rfl
theorem atu:eU P main S b ty (.unOp C8 t1 a) f s h K=@bE _ _ (f a) ⟨fun bS=>@au P _ (Op.unary C8 bS) h ⟨fun v h=>K s h v⟩⟩:=rfl
theorem aoI:eU P main S b ty (.fieldAddr t1 a i) f s h K=@bE _ _ (f a) ⟨fun bS=>@au P _ (Instr.fieldAt t1 bS i) h ⟨fun v h=>K s h v⟩⟩:=rfl
theorem aoJ:eU P main S b ty (.indexAddr t1 a1 a2) f s h K=@bE _ _ (f a1) ⟨fun bS=>@bE _ _ (f a2) ⟨fun eS=>@au P _ (Instr.indexAt t1 bS eS) h ⟨fun v h=>K s h v⟩⟩⟩:=rfl
theorem aqN:eU P main S b ty (.index t1 a1 a2) f s h K=@bE _ _ (f a1) ⟨fun bS=>@bE _ _ (f a2) ⟨fun eS=>@au P _ (Instr.index t1 bS eS) h ⟨fun v h=>K s h v⟩⟩⟩:=rfl
theorem amc:eU P main S b ty (.slice t1 a lo hi bB) f s h K=@bE _ _ (f a) ⟨fun bS=>@au P _ (Instr.sliceAt t1 bS (lo.map f) (hi.map f) (bB.map f)) h ⟨fun v h=>K s h v⟩⟩:=rfl
theorem aeg:eU P main S b ty (.nilCheck a) f s h K=@bE _ _ (f a) ⟨fun bS=>@au P _ (xz bS) h ⟨fun ar h=>match ar with|.value v=>K s h v|_=>False⟩⟩:=rfl
theorem amd:eU P main S b ty (.call ⟨.value (.func k),xs,dN⟩) f s h K=@eX P main _ S k ((xs.toList.map f).toArray) s h ⟨fun s h v=>K s h v⟩:=rfl
theorem ame{bF:Array (Nat×Operand)}:eU P main S b ty (.build t1 bF) f s h K=@au P _ (Instr.build t1 ((bF.toList.map fun p=>(p.1,f p.2)).toArray)) h ⟨fun v h=>K s h v⟩:=rfl
theorem aqO:eU P main S b ty (.makeInterface t1 a) f s h K=@bE _ _ (f a) ⟨fun bS=>@au P _ (Instr.makeInterface t1 bS) h ⟨fun v h=>K s h v⟩⟩:=rfl
theorem aqP:eU P main S b ty (.call ⟨.builtin .len,xs,dN⟩) f s h K=@au P _ (Builtin.len_ dN ty ((xs.toList.map f).toArray)) h ⟨fun v h=>K s h v⟩:=rfl
theorem pt:vo P main S b s h0 [] e N=N e:=rfl
theorem lF{v:Value}(u:∀h,h0.aD h->eU P main S b o.type o.op (aS e) s h fun ai h' bQ=>ai=s/\h.aD h'/\bQ=v)(k:vo P main S b s h0 l (cv e o.dst v) N):vo P main S b s h0 (o::l) e N:=⟨v,u,k⟩
def et:=aM (aM (aM (aM @aoF @ajv) (aM @aoG @aoH)) (aM (aM @aqM @atu) (aM @aoI @aoJ))) (aM (aM (aM @aqN @amc) (aM @aeg @amd)) (aM (aM @aqP @aju) (aM @ame @aqO)))
end
abbrev bL(b o:Nat):Value:=.pointer (some ⟨b,o,none⟩)
abbrev eO(b o n c:Nat):Value:=.slice (some ⟨b,o,none⟩) n c
def Hg(P:Program)(t i:Nat):Bool:=match P.underlying t with
 | some (.struct fs)=>match fs[i]? with|some f=>(match cy P f.type with|some (_+1)=>true|_=>false)|none=>false
 | _=>false
def GF(P:Program)(t i:Nat):Nat:=match P.underlying t with
 | some (.struct fs)=>match fs[i]? with|some f=>f.offset|none=>0
 | _=>0
def Ao(P:Program)(t:Nat):Bool:=match P.underlying t with
 | some (.slice e)=>(cy P e).isSome
 | _=>false
def HN(P:Program)(t:Nat):Nat:=match P.underlying t with
 | some (.slice e)=>(cy P e).getD 0
 | _=>0
def AW(P:Program)(t:Nat):Bool:=match gq P t with|some none=>true|_=>false
def uE(P:Program)(t:Nat):Nat:=match gq P t with|some (some n)=>n|_=>0
def Ap(P:Program)(t:Nat):Bool:=match gq P t with|some (some _)=>true|_=>false
def Pu(x:Option eI)(o:Nat)[K:A7 Value Prop]:Prop:=match x with|some ⟨.cells arr _ _,_⟩=>@vm arr[o]? K|_=>False
def lM(o:Nat):Nat->Array Value->Option (List Value)
 | 0,_=>some []
 | n+1,arr=>q9 arr[o]? (lM (o+1) n arr)
def Zb(x:Option eI)(o n:Nat)[K:A7 Value Prop]:Prop:=match x with|some ⟨.cells arr _ _,_⟩=>@FY (lM o n arr) K|_=>False
section
variable{P:Program}{h:ab}{main:Bool}{ah:Type}{S:Sys ah}{b:bn}{s:ah}{t ty c o n m i:Nat}
theorem aqQ(hk:Hg P t i=true)[K:KK Value]:au P (Instr.fieldAt t (bL c o) i) h=K.f (bL c (o+GF P t i)) h:=by
 unfold Hg at hk;split at hk
 ·rename_i fs hu;split at hk
  ·rename_i f aP;split at hk
   ·rename_i q aE;rw [nq (m:=q) hu aP rfl aE,k5];simp [GF,hu,aP]
   ·cases hk
  ·cases hk
 ·cases hk
theorem aqR(hk:Ao P t=true){a:Option Addr}[K:KK Value]:au P (Builtin.len_ #[t] ty #[.slice a n c]) h=K.f (.int .i64 n) h:=by
 unfold Ao at hk;split at hk
 ·rename_i e hu;exact u3 hu
 ·cases hk
theorem aqS(hk:Ao P t=true){k:IntKind}{x:Int}[K:KK Value]:au P (Instr.indexAt t (eO m o n c) (.int k x)) h=((decide (0<=x)&&decide (x<n))=true/\K.f (bL m (o+x.toNat*HN P t)) h):=by
 unfold Ao at hk;split at hk
 ·rename_i e hu;obtain ⟨bo,hs⟩:=Option.isSome_iff_exists.1 hk;rw [El hu hs];simp [HN,hu,hs]
 ·cases hk
theorem aeh{arr:Array Value}{q:TypeId}{f:Nat×Nat}{w:Bool}{K:Value->Prop}:@Pu (some ⟨.cells arr q f,w⟩) o ⟨K⟩=@vm arr[o]? ⟨K⟩:=rfl
theorem aei{arr:Array Value}{q:TypeId}{f:Nat×Nat}{w:Bool}{K:Value->Prop}:@Zb (some ⟨.cells arr q f,w⟩) o n ⟨K⟩=@FY (lM o n arr) ⟨K⟩:=rfl
theorem aej{arr:Array Value}:lM o 0 arr=some []:=rfl
theorem J2{arr:Array Value}:lM o (n+1) arr=q9 arr[o]? (lM (o+1) n arr):=rfl
theorem aqT(hk:AW P t=true)(hs:(h c).isSome=true)[K:hE ah]:fa P main S b t (bL c o) s h=@Pu (h c) o ⟨fun v=>K.f s h v⟩:=by
 unfold AW at hk;split at hk
 ·rename_i aj;obtain ⟨x,aa⟩:=Option.isSome_iff_exists.1 hs;rw [u7 (K:=K) aa,KB (K:=⟨fun v h=>K.f s h v⟩) aj,aa];obtain ⟨x,w⟩:=x;cases x<;>first|rfl|skip
  all_goals simp [ab.cell?,aa,Pu,vm]
 ·cases hk
theorem pj{w:Bool}{arr:Array Value}{q:TypeId}{f:Nat×Nat}(aa:h c=some ⟨.cells arr q f,w⟩):∀{n i:Nat},h.iU ⟨c,o,none⟩ i n=lM (o+i) n arr
 | 0,i=>rfl
 | n+1,i=>by
  rw [p5,J2,pj aa];congr 1;simp [ab.cell?,aa]
theorem aqU(hk:Ap P t=true)(ao:0<uE P t)(hs:(h c).isSome=true)[K:hE ah]:fa P main S b t (bL c o) s h=@Zb (h c) o (uE P t) ⟨fun v=>K.f s h v⟩:=by
 unfold Ap at hk;split at hk
 ·rename_i k aj;have e:uE P t=k:=by simp [uE,aj]
  rw [e] at ao ⊢;obtain ⟨x,aa⟩:=Option.isSome_iff_exists.1 hs;rw [u7 (K:=K) aa,By (K:=⟨fun v h=>K.f s h v⟩) aj,aa];obtain ⟨x,w⟩:=x;cases x with
  | cells arr q f=>rw [pj aa];rfl
  | _=>
   obtain ⟨k,rfl⟩:∃j,k=j+1:=⟨k- 1,by omega⟩;rw [p5];have:h.cell? ⟨c,o+0,none⟩=none:=by simp [ab.cell?,aa]
   rw [this];rfl
 ·cases hk
end
def HO(x:Option eI)(o:Nat)(vs:List Value):eI:=match x with
 | some ⟨.cells arr q f,w⟩=>⟨.cells (vs.foldl (fun a v=>(a.1+1,a.2.setIfInBounds a.1 v)) (o,arr)).2 q f,w⟩
 | some x=>x
 | none=>⟨.cells #[] 0 (0,0),true⟩
def Pv(x:Option eI)(o n:Nat):Bool:=match x with
 | some ⟨.cells arr _ f,w⟩=>w&&decide (f=(0,0))&&decide (o+n<=arr.size)
 | _=>false
theorem J3{arr:Array Value}{q:TypeId}{f:Nat×Nat}{w:Bool}{o:Nat}{vs:List Value}:HO (some ⟨.cells arr q f,w⟩) o vs=⟨.cells (vs.foldl (fun a v=>(a.1+1,a.2.setIfInBounds a.1 v)) (o,arr)).2 q f,w⟩:=rfl
theorem Tj{arr:Array Value}{q:TypeId}{f:Nat×Nat}{w:Bool}{o n:Nat}:Pv (some ⟨.cells arr q f,w⟩) o n=(w&&decide (f=(0,0))&&decide (o+n<=arr.size)):=rfl
def m9(P:Program)(t:Nat):Nat:=(cy P t).getD 0
def IM(P:Program)(t:Nat)(v:Value):Bool:=(cy P t).isSome&&v.cells.toList.length==m9 P t&&v.cells.toList.all jG
theorem FP{h:ab}{c:Nat}{q:TypeId}:∀{vs:List Value} {arr:Array Value} {o i:Nat} {K:ab->Prop},vs.all jG=true->o+i+vs.length<=arr.size->
  @vR true ⟨c,o,none⟩ i vs (h.put c ⟨.cells arr q (0,0),true⟩) ⟨K⟩=K (h.put c ⟨.cells (vs.foldl (fun a v=>(a.1+1,a.2.setIfInBounds a.1 v)) (o+i,arr)).2 q (0,0),true⟩)
 | [],arr,o,i,K,_,_=>BE
 | v::vs,arr,o,i,K,aA,af=>by
  simp only [List.all_cons,Bool.and_eq_true] at aA;simp only [List.length_cons] at af;rw [zj,FP (vs:=vs) (i:=i+1) aA.2 (by simp;omega)];simp only [aA.1,Bool.true_and,decide_eq_true_eq,show o+i<arr.size by omega,true_and];rfl
section
variable{P:Program}{h:ab}{main:Bool}{ah:Type}{S:Sys ah}{b:bn}{s:ah}{t ty c o n m i:Nat}
theorem Zc{v:Value}(aI:IM P t v=true)(hs:Pv (h c) o (m9 P t)=true)[K:KK Unit]:au P (Instr.storeAt t (bL c o) v) h=∀h1,h1=h.put c (HO (h c) o v.cells.toList)->K.f () h1:=by
 rw [show (∀h1,h1=h.put c (HO (h c) o v.cells.toList)->K.f () h1)=K.f () (h.put c (HO (h c) o v.cells.toList)) from propext ⟨fun k=>k _ rfl,fun k h1 e=>by subst e;exact k⟩];simp only [IM,Bool.and_eq_true,beq_iff_eq] at aI;obtain ⟨⟨h1,h2⟩,h3⟩:=aI;obtain ⟨k,hk⟩:=Option.isSome_iff_exists.1 h1;have e:m9 P t=k:=by simp [m9,hk]
 rw [e] at h2 hs;rw [y9 hk];have e2:(v.cells.size==k)=true:=by simpa using h2
 rw [e2];unfold Pv at hs;split at hs
 ·rename_i arr q f w aa;simp only [Bool.and_eq_true,decide_eq_true_eq] at hs;obtain ⟨⟨rfl,rfl⟩,af⟩:=hs;rw [aa,J3];have:=FP (h:=h) (c:=c) (q:=q) (vs:=v.cells.toList) (arr:=arr) (o:=o) (i:=0) (K:=K.f ()) h3 (by omega);rw [ps aa,Nat.add_zero] at this;exact this
 ·cases hs
def sT(P:Program)(t:Nat):Array Value:=((zeroOf P t).getD .nilFunc).cells
def xJ(P:Program)(t:Nat):Bool:=(zeroOf P t).isSome&& !CW t
theorem atv(hk:xJ P t=true)[K:hE ah]:oi P main S b t s h=∀c h1,h c=none->h1=h.put c ⟨.cells (sT P t) t,true⟩->K.f s h1 (bL c 0):=by
 simp only [xJ,Bool.and_eq_true,Bool.not_eq_true'] at hk;obtain ⟨z,aH⟩:=Option.isSome_iff_exists.1 hk.1;unfold oi;rw [hk.2];show @au P _ (Instr.alloc t true (.tuple #[])) h ⟨fun v h=>K.f s h v⟩=_;rw [KA (K:=⟨fun v h=>K.f s h v⟩) aH];have e:sT P t=z.cells:=by simp [sT,aH]
 rw [e];exact propext ⟨fun k c h1 hc e=>by subst e;exact k c hc,fun k c hc=>k c _ hc rfl⟩
end
theorem t1(t:Nat)(a:AW Tryz.prog t=true:=by kernel_rfl)(b:m9 Tryz.prog t=1:=by kernel_rfl)(c:(cy Tryz.prog t).isSome=true:=by kernel_rfl):AW Tryz.prog t=true/\m9 Tryz.prog t=1/\(cy Tryz.prog t).isSome=true:=aM a (aM b c)
theorem t2(t n:Nat)(a:Ap Tryz.prog t=true:=by kernel_rfl)(b:uE Tryz.prog t=n:=by kernel_rfl)(c:m9 Tryz.prog t=n:=by kernel_rfl)(d:(cy Tryz.prog t).isSome=true:=by kernel_rfl):Ap Tryz.prog t=true/\uE Tryz.prog t=n/\m9 Tryz.prog t=n/\(cy Tryz.prog t).isSome=true:=aM a (aM b (aM c d))
theorem t3(t n:Nat)(a:Ao Tryz.prog t=true:=by kernel_rfl)(b:HN Tryz.prog t=n:=by kernel_rfl):Ao Tryz.prog t=true/\HN Tryz.prog t=n:=aM a b
theorem t4(t n:Nat)(a:Hg Tryz.prog t n=true:=by kernel_rfl)(b:GF Tryz.prog t n=n:=by kernel_rfl):Hg Tryz.prog t n=true/\GF Tryz.prog t n=n:=aM a b
theorem t5(t:Nat)(l:List Value)(a:xJ Tryz.prog t=true:=by kernel_rfl)(b:sT Tryz.prog t=l.toArray:=by kernel_rfl):xJ Tryz.prog t=true/\sT Tryz.prog t=l.toArray:=aM a b
def azw:=aM (aM (aM (aM (aM (aM (t1 3) (aM (t1 4) (t1 5))) (aM (t1 9) (aM (t1 22) (t1 23)))) (aM (aM (t1 26) (aM (t1 27) (t1 33))) (aM (t1 44) (aM (t1 47) (t1 86))))) (aM (aM (aM (t1 87) (aM (t1 206) (t1 199))) (aM (t1 148) (aM (t1 273) (t1 370)))) (aM (aM (t1 91) (aM (t1 98) (t1 153))) (aM (t1 20) (aM (t1 106) (t2 46 1)))))) (aM (aM (aM (aM (t2 49 1) (aM (t2 63 2) (t2 51 4))) (aM (t2 53 4) (aM (t2 25 4) (t2 29 2)))) (aM (aM (t2 119 4) (aM (t2 137 2) (t2 145 3))) (aM (t2 147 2) (aM (t2 104 1) (t2 159 2))))) (aM (aM (aM (t2 161 1) (aM (t2 163 1) (t2 167 4))) (aM (t2 169 4) (aM (t3 22 1) (t3 23 1)))) (aM (aM (t3 26 4) (aM (t3 27 4) (t3 44 1))) (aM (t3 47 2) (aM (t3 87 1) (t3 98 1))))))) (aM (aM (aM (aM (aM (t4 25 0) (aM (t4 25 1) (t4 25 2))) (aM (t4 25 3) (aM (t4 29 0) (t4 29 1)))) (aM (aM (t4 46 0) (aM (t4 49 0) (t4 63 0))) (aM (t4 63 1) (aM (t4 51 0) (t4 51 1))))) (aM (aM (aM (t4 51 2) (aM (t4 51 3) (t4 53 0))) (aM (t4 53 1) (aM (t4 53 2) (t4 53 3)))) (aM (aM (t4 89 0) (aM (t4 89 1) (t4 119 0))) (aM (t4 137 0) (aM (t4 104 0) (t4 159 0)))))) (aM (aM (aM (aM (t4 159 1) (aM (t4 161 0) (t4 163 0))) (aM (t4 167 0) (aM (t4 169 0) (t5 3 [.int .i64 0])))) (aM (aM (t5 46 [.slice none 0 0]) (aM (t5 49 [.slice none 0 0]) (t5 63 [.int .i64 0,.int .i64 0]))) (aM (t5 51 [.string .empty,.int .i64 0,.int .i64 0,.int .i64 0]) (aM (t5 53 [.string .empty,.int .i64 0,.int .i64 0,.int .i64 0]) (t5 25 [.slice none 0 0,.slice none 0 0,.int .i64 0,.int .i64 0]))))) (aM (aM (aM (t5 29 [.slice none 0 0,.slice none 0 0]) (aM (t5 89 [.pointer none,.slice none 0 0]) (t5 119 [.slice none 0 0,.slice none 0 0,.int .i64 0,.int .i64 0]))) (aM (t5 137 [.slice none 0 0,.slice none 0 0]) (aM (t5 4 [.bool false]) (t5 9 [.string .empty])))) (aM (aM (t5 91 [.nilIface]) (aM (t5 104 [.int .i64 0]) (t5 159 [.int .i64 0,.int .i64 0]))) (aM (aM (t5 161 [.slice none 0 0]) (t5 163 [.slice none 0 0])) (aM (t5 167 [.string .empty,.int .i64 0,.int .i64 0,.int .i64 0]) (t5 169 [.string .empty,.int .i64 0,.int .i64 0,.int .i64 0])))))))
theorem agE{k:IntKind}{i:Int}:Value.cells (.int k i)=#[.int k i]:=rfl
theorem aek{b:Bool}:Value.cells (.bool b)=#[.bool b]:=rfl
theorem ado{b:ByteArray}:Value.cells (.string b)=#[.string b]:=rfl
theorem adD{a:Option Addr}{n c:Nat}:Value.cells (.slice a n c)=#[.slice a n c]:=rfl
theorem agF{a:Option Addr}:Value.cells (.pointer a)=#[.pointer a]:=rfl
theorem Kq{l:Array Value}:Value.cells (.agg l)=l:=rfl
theorem ael{f:Fn}{x y:Array Value}:Value.cells (.func f x y)=#[.func f x y]:=rfl
theorem adE{t:TypeId}{v:Value}:Value.cells (.iface t v)=#[.iface t v]:=rfl
theorem agG:Value.cells .nilIface=#[.nilIface]:=rfl
theorem aoK{k:IntKind}{i:Int}:jG (.int k i)=true:=rfl
theorem amf{b:Bool}:jG (.bool b)=true:=rfl
theorem agH{b:ByteArray}:jG (.string b)=true:=rfl
theorem ajw{a:Option Addr}{n c:Nat}:jG (.slice a n c)=true:=rfl
theorem aoL{a:Option Addr}:jG (.pointer a)=true:=rfl
theorem amg{f:Fn}{x y:Array Value}:jG (.func f x y)=true:=rfl
theorem ajx{t:TypeId}{v:Value}:jG (.iface t v)=true:=rfl
theorem aoM:jG .nilIface=true:=rfl
theorem aqV{P:Program}{h:ab}{t:TypeId}{v:Value}[K:KK Value]:au P (Instr.box t v) h=∀c h1,h c=none->h1=h.put c ⟨.cells v.cells t,true⟩->K.f (bL c 0) h1:=by
 rw [w8];exact propext ⟨fun k c h1 hc e=>by subst e;exact k c hc,fun k c hc=>k c _ hc rfl⟩
theorem cS{h h1:ab}{c:Nat}{x:eI}(hc:h c=none)(e:h1=h.put c x):h.aD h1:=by subst e;exact hf hc
theorem fq{h0 h h1:ab}{c:Nat}{x:eI}(l:h0.aD h)(hc:h0 c=none)(e:h1=h.put c x):h0.aD h1:=by
 subst e;intro b y hb;rw [cG (fun q=>by subst q;rw [hc] at hb;cases hb)];exact l b y hb
theorem cq{h h1:ab}{c:Nat}{x:eI}(e:h1=h.put c x):h1 c=some x:=by subst e;exact dd
theorem awZ{i:Nat}:decide ((0:Int)<=i)=true:=by simp
theorem amh{P:Program}{t:Nat}{v:Value}:IM P t v=((cy P t).isSome&&v.cells.toList.length==m9 P t&&v.cells.toList.all jG):=rfl
def ad:=aM (aM (aM (aM (aM (@aqQ) (aM @aqR @aqS)) (aM (aM @aqT @aqU) (aM @Zc @atv))) (aM (aM (aM @aqV @aeh) (aM @aei @Ez)) (aM (aM @adt @aej) (aM @J2 @EA)))) (aM (aM (aM (aM @J3 @Tj) (aM @agE @aek)) (aM (aM @ado @adD) (aM @agF @Kq))) (aM (aM (aM @ael @adE) (aM @agG @aoK)) (aM (aM @amf @agH) (aM @ajw @aoL))))) (aM (aM (aM (aM (aM @amg @ajx) (aM @aoM @awZ)) (aM (aM @true_and @amh) (aM @ahd @tt))) (aM (aM (aM @wZ @aj3) (aM @azw @bc)) (aM (aM @Nat.zero_add @Nat.add_zero) (aM @Nat.mul_one @Int.toNat_natCast)))) (aM (aM (aM (aM @Option.isSome_some.{0} @List.getElem?_toArray.{0}) (aM @List.getElem?_cons_zero.{0} @List.getElem?_cons_succ.{0})) (aM (aM @List.size_toArray.{0} @List.length_cons.{0}) (aM @List.length_nil.{0} @List.foldl_cons.{0,0}))) (aM (aM (aM @List.foldl_nil.{0,0} @List.setIfInBounds_toArray.{0}) (aM @List.set_cons_zero.{0} @List.set_cons_succ.{0})) (aM (aM @Bool.and_true @Bool.true_and) (aM @List.all_cons.{0} @List.all_nil.{0})))))
section
variable{main:Bool}{ah:Type}{S:Sys ah}{s:ah}{h:ab}
def jO(p:Int×Int):Value:=.agg #[.int .i64 p.1,.int .i64 p.2]
def insideOk(p:Int×Int)(lo hi:Int):Bool:=(decide (lo<=p.1)&&decide (p.1<=hi))&&((decide (lo<=p.2)&&decide (p.2<=hi))&&decide (p.1<=p.2))
theorem ajy(p:Int×Int)(lo hi:Int):bI Tryz.prog main S 48 #[jO p,.int .i64 lo,.int .i64 hi] s h fun ai h' v=>ai=s/\h.aD h'/\v=.bool (insideOk p lo hi):=by
 refine cc (args:=[jO p,.int .i64 lo,.int .i64 hi]) Tryz.func48 (by delta Tryz.f48;rfl) Tryz.ntmps48 (by simp) (by kernel_rfl) ?_;simp only [ad,seval,jO];intro c h1 hc e1;have le:=cS hc e1;have g:=cq e1;simp only [ad,seval,g];refine eQ call47 (pF _ _ _ _ _) ?_;cases an:(decide (lo<=p.1)&&decide (p.1<=hi)) with
 | false=>
  simp only [ad,seval,g];exact bT Tryz.results48 (by simp) ⟨rfl,le,by simp [ak,insideOk,an]⟩
 | true=>
  simp only [ad,seval,g];refine eQ call47 (pF _ _ _ _ _) ?_;cases az:(decide (lo<=p.2)&&decide (p.2<=hi)) with
  | false=>
   simp only [ad,seval,g];exact bT Tryz.results48 (by simp) ⟨rfl,le,by simp [ak,insideOk,az]⟩
  | true=>
   simp only [ad,seval,g];exact bT Tryz.results48 (by simp) ⟨rfl,le,by simp [ak,insideOk,an,az]⟩
structure dx(h:ab)(v:Value)(bo:Nat)(rows:List (List Value)):Prop where
 ex:∃b o n c,v=.slice b n c/\rows.length=n/\(n=0\/∃m,b=some ⟨m,o,none⟩/\∃arr q f w,h m=some ⟨.cells arr q f,w⟩/\∀i row,rows[i]? =some row->∀j x,row[j]? =some x->arr[o+i*bo+j]? =some x)
theorem dx.le{h h':ab}{v:Value}{bo:Nat}{rows:List (List Value)}(le:h.aD h')(q:dx h v bo rows):dx h' v bo rows:=by
 obtain ⟨b,o,n,c,r1,r2,r3⟩:=q;refine ⟨b,o,n,c,r1,r2,r3.imp id fun ⟨m,e,arr,q,f,w,hm,al⟩=>⟨m,e,arr,q,f,w,le _ _ hm,al⟩⟩
structure ej where
 cI:List (List Int)
 cO:List (List (Int×Int))
 fN:Int
 fH:Int
structure iB where
 name:List UInt8
 dQ:Int
 size:Int
 iG:Int
structure je where
 name:List UInt8
 size:Int
 gM:Int
 dQ:Int
structure Ground where
 dT:List iB
 ei:List je
def b4(i:Int):Value:=.int .i64 i
def ju(h:ab)(v:Value)(l:List Int):Prop:=dx h v 1 (l.map fun i=>[b4 i])
def pr(h:ab)(v:Value)(l:List (Int×Int)):Prop:=dx h v 2 (l.map fun p=>[b4 p.1,b4 p.2])
def rm{α β:Type}(R:α->β->Prop)(l:List α)(m:List β):Prop:=l.length=m.length/\∀(i:Nat) x y,l[i]? =some x->m[i]? =some y->R x y
def zg(h:ab)(v:Value)(l:List (List Int)):Prop:=∃vs:List Value,dx h v 1 (vs.map fun x=>[x])/\rm (ju h) vs l
def zK(h:ab)(v:Value)(l:List (List (Int×Int))):Prop:=∃vs:List Value,dx h v 1 (vs.map fun x=>[x])/\rm (pr h) vs l
def KU(h:ab)(v:Value)(l:List iB):Prop:=dx h v 4 (l.map fun s=>[aW s.name,b4 s.dQ,b4 s.size,b4 s.iG])
def Kr(h:ab)(v:Value)(l:List je):Prop:=dx h v 4 (l.map fun s=>[aW s.name,b4 s.size,b4 s.gM,b4 s.dQ])
def mh(h:ab)(v:Value)(b:ej):Prop:=∃v1 v2,v=.agg #[v1,v2,b4 b.fN,b4 b.fH]/\zg h v1 b.cI/\zK h v2 b.cO
def lG(h:ab)(v:Value)(g:Ground):Prop:=∃v1 v2,v=.agg #[v1,v2]/\KU h v1 g.dT/\Kr h v2 g.ei
theorem rm.imp{α β:Type}{R Q:α->β->Prop}(k:∀x y,R x y->Q x y){l:List α}{m:List β}(q:rm R l m):rm Q l m:=⟨q.1,fun i x y h1 h2=>k _ _ (q.2 i x y h1 h2)⟩
theorem zg.le{h h':ab}{v:Value}{l:List (List Int)}(le:h.aD h')(q:zg h v l):zg h' v l:=let ⟨vs,a,b⟩:=q;⟨vs,a.le le,b.imp fun _ _ q=>dx.le le q⟩
theorem zK.le{h h':ab}{v:Value}{l:List (List (Int×Int))}(le:h.aD h')(q:zK h v l):zK h' v l:=let ⟨vs,a,b⟩:=q;⟨vs,a.le le,b.imp fun _ _ q=>dx.le le q⟩
theorem mh.le{h h':ab}{v:Value}{b:ej}(le:h.aD h')(q:mh h v b):mh h' v b:=let ⟨v1,v2,a,b,c⟩:=q;⟨v1,v2,a,b.le le,c.le le⟩
theorem lG.le{h h':ab}{v:Value}{b:Ground}(le:h.aD h')(q:lG h v b):lG h' v b:=let ⟨v1,v2,a,b,c⟩:=q;⟨v1,v2,a,dx.le le b,dx.le le c⟩
end
section
variable{h:ab}
theorem KV{d:Nat}{a b:Int}{Q:Bool->ab->Prop}:bf Tryz.prog (Op.equalIn (d+1) 3 (.int .i64 a) (.int .i64 b)) h Q=Q (a==b) h:=by
 rw [Op.equalIn];simp only [aV,df,Tryz.underlying3,if_true,bh]
theorem Vg{d:Nat}{a b:List UInt8}{Q:Bool->ab->Prop}:bf Tryz.prog (Op.equalIn (d+1) 9 (aW a) (aW b)) h Q=Q (a==b) h:=by
 rw [Op.equalIn];simp only [aV,df,Tryz.underlying9,bh];congr 1;show ((⟨a⟩:Array UInt8)==⟨b⟩)=(a==b);simp
theorem atw:Tryz.prog.stoodInHeld 51=false:=by kernel_rfl
theorem Pw{cs:List Value}{o:Nat}(Q:Value->ab->Prop):bf Tryz.prog (part 9 ⟨cs⟩ o) h Q=@vm cs[o]? ⟨fun v=>Q v h⟩:=by
 exact Bt (P:=Tryz.prog) (h:=h) (t:=9) (cs:=cs) (o:=o) Q none (by kernel_rfl)
theorem Px{cs:List Value}{o:Nat}(Q:Value->ab->Prop):bf Tryz.prog (part 3 ⟨cs⟩ o) h Q=@vm cs[o]? ⟨fun v=>Q v h⟩:=by
 exact Bt (P:=Tryz.prog) (h:=h) (t:=3) (cs:=cs) (o:=o) Q none (by kernel_rfl)
theorem ami{d:Nat}{a b:List UInt8}{x y z x' c8 j4:Int}{Q:Bool->ab->Prop}:bf Tryz.prog (Op.equalIn (d+2) 51 (.agg #[aW a,b4 x,b4 y,b4 z]) (.agg #[aW b,b4 x',b4 c8,b4 j4])) h Q=Q (a==b&&(x==x'&&(y==c8&&z==j4))) h:=by
 rw [Op.equalIn];simp only [aV,df,Tryz.underlying51,bh,mJ,atw,Bool.false_eq_true,if_false,List.forIn_toArray,List.forIn_cons,List.forIn_nil];cases aA:(a==b)<;>cases aa:(x==x')<;>cases ax:(y==c8)<;>cases aH:(z==j4)<;>simp only [aV,Pw,Px,b4,Vg,KV,aA,aa,ax,aH,List.getElem?_cons_zero,List.getElem?_cons_succ,Ez,bh,Bool.not_true,Bool.not_false,if_true,if_false,Bool.false_eq_true,Bool.and_true,Bool.and_false,Bool.true_and,Bool.false_and,ne_eq,String.reduceEq,not_false_eq_true]
theorem atx:Tryz.prog.stoodInHeld 53=false:=by kernel_rfl
theorem amj{d:Nat}{a b:List UInt8}{x y z x' c8 j4:Int}{Q:Bool->ab->Prop}:bf Tryz.prog (Op.equalIn (d+2) 53 (.agg #[aW a,b4 x,b4 y,b4 z]) (.agg #[aW b,b4 x',b4 c8,b4 j4])) h Q=Q (a==b&&(x==x'&&(y==c8&&z==j4))) h:=by
 rw [Op.equalIn];simp only [aV,df,Tryz.underlying53,bh,mJ,atx,Bool.false_eq_true,if_false,List.forIn_toArray,List.forIn_cons,List.forIn_nil];cases aA:(a==b)<;>cases aa:(x==x')<;>cases ax:(y==c8)<;>cases aH:(z==j4)<;>simp only [aV,Pw,Px,b4,Vg,KV,aA,aa,ax,aH,List.getElem?_cons_zero,List.getElem?_cons_succ,Ez,bh,Bool.not_true,Bool.not_false,if_true,if_false,Bool.false_eq_true,Bool.and_true,Bool.and_false,Bool.true_and,Bool.false_and,ne_eq,String.reduceEq,not_false_eq_true]
theorem aty:Tryz.prog.stoodInHeld 63=false:=by kernel_rfl
theorem amk{d:Nat}{p q:Int×Int}{Q:Bool->ab->Prop}:bf Tryz.prog (Op.equalIn (d+2) 63 (jO p) (jO q)) h Q=Q (p.1==q.1&&p.2==q.2) h:=by
 unfold jO;rw [Op.equalIn];simp only [aV,df,Tryz.underlying63,bh,mJ,aty,Bool.false_eq_true,if_false,List.forIn_toArray,List.forIn_cons,List.forIn_nil];cases aa:(p.1==q.1)<;>cases ax:(p.2==q.2)<;>simp only [aV,Pw,Px,KV,aa,ax,List.getElem?_cons_zero,List.getElem?_cons_succ,Ez,bh,Bool.not_true,Bool.not_false,if_true,if_false,Bool.false_eq_true,Bool.and_true,Bool.and_false,Bool.true_and,Bool.false_and,ne_eq,String.reduceEq,not_false_eq_true]
theorem N8{P:Program}{t:TypeId}(aG:P.eqGuardType P.depth t=false){x y:Operand}{a b:Array Value}{r:Bool}(key:∀Q:Bool->ab->Prop,bf P (Op.equalIn (9998+2) t (.agg a) (.agg b)) h Q=Q r h)[K:KK Value]:au P (cr .neq t x y (.agg a) (.agg b)) h=K.f (.bool (!r)) h:=by
 have bk:∀(Q:Unit->ab->Prop),bf P (eqGuard .neq t x y (.agg a) (.agg b)) h Q=Q () h:=fun Q=>by
  unfold eqGuard;simp [bh,aV,mJ,aG]
 have atz:∀Q:Bool->ab->Prop,bf P (Op.equal t (.agg a) (.agg b)) h Q=Q r h:=key;simp only [au,cr,aV,bk,binOp];simp only [aV,atz,bh]
def iB.v(s:iB):Value:=.agg #[aW s.name,b4 s.dQ,b4 s.size,b4 s.iG]
def je.v(s:je):Value:=.agg #[aW s.name,b4 s.size,b4 s.gM,b4 s.dQ]
def xq(a b:iB):Bool:=a.name==b.name&&(a.dQ==b.dQ&&(a.size==b.size&&a.iG==b.iG))
def xr(a b:je):Bool:=a.name==b.name&&(a.size==b.size&&(a.gM==b.gM&&a.dQ==b.dQ))
def xu(p q:Int×Int):Bool:=p.1==q.1&&p.2==q.2
theorem atA{x y:Operand}{a b:iB}[K:KK Value]:au Tryz.prog (cr .neq 51 x y a.v b.v) h=K.f (.bool (!xq a b)) h:=N8 (by kernel_rfl) fun Q=>ami
theorem atB{x y:Operand}{a b:je}[K:KK Value]:au Tryz.prog (cr .neq 53 x y a.v b.v) h=K.f (.bool (!xr a b)) h:=N8 (by kernel_rfl) fun Q=>amj
theorem atC{x y:Operand}{a b:Int×Int}[K:KK Value]:au Tryz.prog (cr .neq 63 x y (jO a) (jO b)) h=K.f (.bool (!xu a b)) h:=N8 (by kernel_rfl) fun Q=>amk
theorem T7{a b:iB}:xq a b=true↔a=b:=by cases a;cases b;simp [xq]
theorem T8{a b:je}:xr a b=true↔a=b:=by cases a;cases b;simp [xr]
theorem T9{a b:Int×Int}:xu a b=true↔a=b:=by cases a;cases b;simp [xu]
end
section
variable{main:Bool}{ah:Type}{S:Sys ah}{s:ah}{h:ab}
theorem call31:bP Tryz.prog 31=true:=by kernel_rfl
theorem aem{v w:Value}{l m:List Int}(aI:ju h v l)(hw:ju h w m)(af:l.length<=1000):bI Tryz.prog main S 31 #[v,w] s h fun ai h' x=>ai=s/\h.aD h'/\x=.bool (l==m):=by
 refine cc (args:=[v,w]) Tryz.func31 (by delta Tryz.f31;rfl) Tryz.ntmps31 (by simp) (by kernel_rfl) ?_;obtain ⟨b,o,n,c,rfl,cR,hb⟩:=aI;obtain ⟨b9,aO,n',b2,rfl,pK,dW⟩:=hw;simp only [List.length_map] at cR pK;subst cR;subst pK;simp only [ad,seval];by_cases b7:l.length=m.length
 ·have e:((l.length:Int) != m.length)=false:=by simp [b7]
  simp only [ad,seval,e];refine eG (I:=fun k e d ai h'=>∃i:Nat,k=l.length- i/\i<=l.length/\e 0=.slice b l.length c/\e 1=.slice b9 m.length b2/\e 5=.int .i64 i/\d=[]/\ai=s/\h.aD h'/\l.take i=m.take i) (fun k e d ai h' bU=> ?_) (m:=l.length) ⟨0,by simp,by omega,by simp [ak],by simp [ak],by simp [ak],rfl,rfl,fun _ _ q=>q,by simp⟩;obtain ⟨i,rfl,hi,e0,e1,e5,rfl,rfl,bz,aA⟩:=bU;simp only [ad,seval,e0,e1,e5];rcases Nat.lt_or_ge i l.length with hc|hc
  ·simp only [ad,seval,decide_eq_true (show (i:Int)<l.length by omega),kJ];obtain ⟨mb,rfl,arr,q,f,w,hm,al⟩:=hb.resolve_left (by omega);obtain ⟨rH,rfl,vD,j6,pR,w',mr,eu⟩:=dW.resolve_left (by omega);have gB:i<m.length:=by omega
   have g1:arr[o+i]? =some (.int .i64 l[i]):=by simpa [b4] using al i [b4 l[i]] (by simp [hc]) 0 _ rfl
   have g2:vD[aO+i]? =some (.int .i64 m[i]):=by simpa [b4] using eu i [b4 m[i]] (by simp [gB]) 0 _ rfl
   have dL:∀h,h'.aD h->h mb=_:=fun h le=>le _ _ (bz _ _ hm);have pL:∀h,h'.aD h->h rH=_:=fun h le=>le _ _ (bz _ _ mr);have bd:decide ((i:Int)<l.length)=true:=by simp;omega
   have j1:decide ((i:Int)<m.length)=true:=by simp;omega
   intro t;refine p8 hR (by kernel_rfl) (by kernel_rfl) ?_ t
   repeat refine lF (fun h1 le=>by simp only [ad,seval,et,le,e0,e1,e5,dL,pL,g1,g2,bd,j1];exact ⟨fun _ _ q=>q,rfl⟩) ?_
   rw [pt];intro h2 bM;by_cases aa:l[i]=m[i]
   ·have ex:(l[i] != m[i])=false:=by simp [aa]
    simp only [ad,seval,ex,e5];refine ⟨_,?_,i+1,rfl,by omega,by simp [ak,e0],by simp [ak,e1],by simp [ak,dw (x:=(i:Int)+1) (by omega) (by omega)],fun _ _ q=>bM _ _ (bz _ _ q),?_⟩
    ·omega
    ·rw [List.take_add_one,List.take_add_one,aA];simp [hc,gB,aa]
   ·have ex:(l[i] != m[i])=true:=by simpa using aa
    simp only [ad,seval,ex];refine bT Tryz.results31 (by simp) ⟨rfl,fun _ _ q=>bM _ _ (bz _ _ q),?_⟩;have:(l==m)=false:=by
     rw [beq_eq_false_iff_ne];rintro rfl;exact aa rfl
    simp [ak,this]
  ·simp only [ad,seval,decide_eq_false (show ¬(i:Int)<l.length by omega)];have dt:i=l.length:=by omega
   rw [dt,List.take_length,b7,List.take_length] at aA;exact bT Tryz.results31 (by simp) ⟨rfl,bz,by simp [ak,aA]⟩
 ·have e:((l.length:Int) != m.length)=true:=by simp;omega
  simp only [ad,seval,e];have:(l==m)=false:=by
   rw [beq_eq_false_iff_ne];rintro rfl;exact b7 rfl
  exact bT Tryz.results31 (by simp) ⟨rfl,fun _ _ q=>q,by simp [ak,this]⟩
theorem call46:bP Tryz.prog 46=true:=by kernel_rfl
theorem aqW{x y:Operand}{a b:Int×Int}[K:KK Value]:au Tryz.prog (cr .neq 63 x y (.agg #[.int .i64 a.1,.int .i64 a.2]) (.agg #[.int .i64 b.1,.int .i64 b.2])) h=K.f (.bool (!xu a b)) h:=atC
theorem adF{v w:Value}{l m:List (Int×Int)}(aI:pr h v l)(hw:pr h w m)(af:l.length<=1000):bI Tryz.prog main S 46 #[v,w] s h fun ai h' x=>ai=s/\h.aD h'/\x=.bool (l==m):=by
 refine cc (args:=[v,w]) Tryz.func46 (by delta Tryz.f46;rfl) Tryz.ntmps46 (by simp) (by kernel_rfl) ?_;obtain ⟨b,o,n,c,rfl,cR,hb⟩:=aI;obtain ⟨b9,aO,n',b2,rfl,pK,dW⟩:=hw;simp only [List.length_map] at cR pK;subst cR;subst pK;simp only [ad,seval];by_cases b7:l.length=m.length
 ·have e:((l.length:Int) != m.length)=false:=by simp [b7]
  simp only [ad,seval,e];refine eG (I:=fun k e d ai h'=>∃i:Nat,k=l.length- i/\i<=l.length/\e 0=.slice b l.length c/\e 1=.slice b9 m.length b2/\e 5=.int .i64 i/\d=[]/\ai=s/\h.aD h'/\l.take i=m.take i) (fun k e d ai h' bU=> ?_) (m:=l.length) ⟨0,by simp,by omega,by simp [ak],by simp [ak],by simp [ak],rfl,rfl,fun _ _ q=>q,by simp⟩;obtain ⟨i,rfl,hi,e0,e1,e5,rfl,rfl,bz,aA⟩:=bU;simp only [ad,seval,e0,e1,e5];rcases Nat.lt_or_ge i l.length with hc|hc
  ·simp only [ad,seval,decide_eq_true (show (i:Int)<l.length by omega),kJ];obtain ⟨mb,rfl,arr,q,f,w,hm,al⟩:=hb.resolve_left (by omega);obtain ⟨rH,rfl,vD,j6,pR,w',mr,eu⟩:=dW.resolve_left (by omega);have gB:i<m.length:=by omega
   have r1:=al i [b4 l[i].1,b4 l[i].2] (by simp [hc]);have r2:=eu i [b4 m[i].1,b4 m[i].2] (by simp [gB]);have g1:arr[o+i*2]? =some (.int .i64 l[i].1):=r1 0 _ rfl;have g2:vD[aO+i*2]? =some (.int .i64 m[i].1):=r2 0 _ rfl;have g3:arr[o+i*2+1]? =some (.int .i64 l[i].2):=r1 1 _ rfl;have g4:vD[aO+i*2+1]? =some (.int .i64 m[i].2):=r2 1 _ rfl;have dL:∀h,h'.aD h->h mb=_:=fun h le=>le _ _ (bz _ _ hm);have pL:∀h,h'.aD h->h rH=_:=fun h le=>le _ _ (bz _ _ mr);have bd:decide ((i:Int)<l.length)=true:=by simp;omega
   have j1:decide ((i:Int)<m.length)=true:=by simp;omega
   intro t;refine p8 hR (by kernel_rfl) (by kernel_rfl) ?_ t
   repeat refine lF (fun h1 le=>by simp only [ad,seval,et,le,e0,e1,e5,dL,pL,g1,g2,g3,g4,bd,j1,aqW];exact ⟨fun _ _ q=>q,rfl⟩) ?_
   rw [pt];intro h2 bM;by_cases aa:l[i]=m[i]
   ·have ex:(!xu l[i] m[i])=false:=by simp [T9.2 aa]
    simp only [ad,seval,ex,e5];refine ⟨_,?_,i+1,rfl,by omega,by simp [ak,e0],by simp [ak,e1],by simp [ak,dw (x:=(i:Int)+1) (by omega) (by omega)],fun _ _ q=>bM _ _ (bz _ _ q),?_⟩
    ·omega
    ·rw [List.take_add_one,List.take_add_one,aA];simp [hc,gB,aa]
   ·have ex:(!xu l[i] m[i])=true:=by
     have:xu l[i] m[i]=false:=by rw [<- Bool.not_eq_true,T9];exact aa
     simp [this]
    simp only [ad,seval,ex];refine bT Tryz.results46 (by simp) ⟨rfl,fun _ _ q=>bM _ _ (bz _ _ q),?_⟩;have:(l==m)=false:=by
     rw [beq_eq_false_iff_ne];rintro rfl;exact aa rfl
    simp [ak,this]
  ·simp only [ad,seval,decide_eq_false (show ¬(i:Int)<l.length by omega)];have dt:i=l.length:=by omega
   rw [dt,List.take_length,b7,List.take_length] at aA;exact bT Tryz.results46 (by simp) ⟨rfl,bz,by simp [ak,aA]⟩
 ·have e:((l.length:Int) != m.length)=true:=by simp;omega
  simp only [ad,seval,e];have:(l==m)=false:=by
   rw [beq_eq_false_iff_ne];rintro rfl;exact b7 rfl
  exact bT Tryz.results46 (by simp) ⟨rfl,fun _ _ q=>q,by simp [ak,this]⟩
end
end
end Go.Nk
