/- Part Pav of the proof of ButtBack: lemmas. -/
import Derived.Test.YthgephlghkjiaaaGreatDoorPau
set_option maxRecDepth 100000
set_option maxHeartbeats 4000000
set_option linter.all false
namespace Go.Nk
noncomputable section
open Go Go.Conc Go.Proofs
def iT(k:Nat):UInt8:=UInt8.ofNat (48+k)
def dec(n:Nat):List UInt8:=if n<10 then [iT n] else if n<100 then [iT (n/10),iT (n%10)] else if n<1000 then [iT (n/100),iT (n/10%10),iT (n%10)] else [iT (n/1000),iT (n/100%10),iT (n/10%10),iT (n%10)]
section
variable{main:Bool}{ah:Type}{S:Sys ah}{s:ah}{h:ab}
theorem Wy{L:List UInt8}{f:Nat->List UInt8}{i N:Nat}{k k':IntKind}{K:Value->ab->Prop}(hi:i<N)(a b:Nat->Nat)(o4:∀j:Fin N,a j.1<=b j.1/\b j.1<=L.length/\(L.drop (a j.1)).take (b j.1- a j.1)=f j.1)(u:K (aW (f i)) h):
  @au Tryz.prog _ (Instr.sliceAt 9 (.string ⟨⟨L⟩⟩) (some (.int k (a i:Nat))) (some (.int k' (b i:Nat))) none) h ⟨K⟩:=by
 obtain ⟨h1,h2,h3⟩:=o4 ⟨i,hi⟩;rw [Q2 (K:=⟨K⟩) h1 h2];simp only at h3;rw [h3];exact u
theorem call155:bP Tryz.prog 155=true:=by kernel_rfl
theorem amv{n:Nat}(ao:n<100):Pure Tryz.prog main S 155 #[.int .i64 n] (aW (dec n)):=by
 intro s h;refine cc (args:=[.int .i64 n]) Tryz.func155 (by delta Tryz.f155;rfl) Tryz.ntmps155 (by simp) (by kernel_rfl) ?_;have w1:IntKind.i64.wrap ((n:Int)+1)=((n+1:Nat):Int):=(dw (by omega) (by omega)).trans (by omega);have w2:IntKind.i64.wrap ((n:Int)*2)=((n*2:Nat):Int):=(dw (by omega) (by omega)).trans (by omega);have w3:IntKind.i64.wrap (((n*2:Nat):Int)+2)=((n*2+2:Nat):Int):=(dw (by omega) (by omega)).trans (by omega);by_cases h1:n<10
 ·simp only [ad,seval,decide_eq_true (show (n:Int)<10 by omega),w1];refine Wy (f:=fun j=>[iT j]) h1 (fun j=>j) (fun j=>j+1) (by decide +kernel) ?_;simp only [ad,seval];exact bT Tryz.results155 (by simp) ⟨rfl,rfl,by simp [ak,dec,h1]⟩
 ·simp only [ad,seval,decide_eq_false (show ¬(n:Int)<10 by omega),w2,w3];refine Wy (f:=fun j=>[iT (j/10),iT (j%10)]) ao (fun j=>j*2) (fun j=>j*2+2) (by decide +kernel) ?_;simp only [ad,seval];exact bT Tryz.results155 (by simp) ⟨rfl,rfl,by simp [ak,dec,h1,ao]⟩
end
def kN:Op->Bool
 | .store _ _ _=>true
 | _=>false
def pH:Op->List Nat
 | .store _ x y=>mW x++mW y
 | o=>iQ o
def Yj:Op->Bool
 | .load _ _=>false
 | .call _=>false
 | o=>vj o
section
variable{P:Program}{main:Bool}{ah:Type}{S:Sys ah}{b:bn}
def oP(P:Program)(op:Op)(f:Operand->Value)(h:ab)(K:ab->Prop):Prop:=
 match op with
 | .store t x y=>@bE _ _ (f x) ⟨fun bS=>@bE _ _ (f y) ⟨fun eS=>@au P _ (Instr.storeAt t bS eS) h ⟨fun _ h=>K h⟩⟩⟩
 | _=>False
theorem Ud{op:Op}{f:Operand->Value}{h:ab}{K M:ab->Prop}(k:∀h,K h->M h)(u:oP P op f h K):oP P op f h M:=by
 cases op<;>first|exact u.elim|exact Go.Nk.oF P _ (fun _ h q=>k h q) u
theorem Vn{o:Oper}{e:Env}{d:List Deferred}{s:ah}{h:ab}{N:Env->List Deferred->ah->ab->Prop}(hd:o.dst=none)(u:oP P o.op (aS e) h fun h=>N e d s h):b3 P main S b o e d s h N:=by
 obtain ⟨dst,op,ty,pos,RN,bk⟩:=o;cases hd;cases op<;>first|exact u.elim|exact u
theorem KY{op:Op}(hs:kN op=true){e E:Env}(al:∀t∈pH op,e t=E t){h:ab}{K:ab->Prop}:oP P op (aS e) h K=oP P op (aS E) h K:=by
 cases op<;>first|exact (Bool.false_ne_true hs).elim|skip
 rename_i t x y;simp only [oP];rw [kl (x:=x) fun t aj=>al t (by simp [pH,aj]),kl (x:=y) fun t aj=>al t (by simp [pH,aj])]
def qi(P:Program)(main:Bool){ah:Type}(S:Sys ah)(b:bn)(s:ah):List Oper->Env->ab->(Env->ab->Prop)->Prop
 | [],e,h,N=>N e h
 | o::l,e,h,N=>if kN o.op then ∃h',oP P o.op (aS e) h (fun x=>x=h')/\qi P main S b s l e h' N
  else ∃v,(∀h,eU P main S b o.type o.op (aS e) s h fun ai h' bQ=>ai=s/\h'=h/\bQ=v)/\qi P main S b s l (cv e o.dst v) h N
def xL:List Oper->Bool
 | []=>true
 | o::l=>cond (kN o.op) o.dst.isNone (vj o.op)&&xL l
def iX(l:List Oper)(i:Nat):Bool:=match l[i]? with|some o=>kN o.op|none=>false
def kK(l:List Oper)(i p:Nat):Bool:=match l[i]? with|some o=>o.after.toList.any fun x=>Region.binds .any x&&x.on==p|none=>false
def atH(l:List Oper):Bool:=(List.range l.length).all fun i=>(List.range i).all fun p=> !(iX l p&&iX l i)||kK l i p
def Hi:List Oper->Bool
 | []=>true
 | o::l=>((pH o.op).all fun t=>(o::l).all fun aO=>aO.dst != some t)&&Hi l
def arc(l:List Oper)(o:Oper):Bool:=(pH o.op).all fun t=>(l.all fun aO=>aO.dst != some t)||(o.after.toList.any fun x=>Region.binds .any x&&((l[x.on]?).bind (·.dst)==some t))
theorem Mz{s:ah}:∀{l:List Oper} {e:Env} {h:ab} {N:Env->ab->Prop},Hi l=true->od l=true->xL l=true->qi P main S b s l e h N->
  ∃(E:Env) (H:Nat->ab),H 0=h/\(∀t,l.all (fun aO=>aO.dst != some t)=true->E t=e t)/\N E (H l.length)/\
   ∀(j:Nat) (o:Oper),l[j]? =some o->(kN o.op=true/\oP P o.op (aS E) (H j) (fun x=>x=H (j+1)))\/(kN o.op=false/\H (j+1)=H j/\∀h,eU P main S b o.type o.op (aS E) s h fun ai h' bQ=>ai=s/\h'=h/\He o.dst E bQ)
 | [],e,h,N,_,_,_,u=>⟨e,fun _=>h,rfl,fun _ _=>rfl,u,fun j o ae=>by simp at ae⟩
 | o::l,e,h,N,h1,h2,h3,u=>by
  simp only [Hi,od,Bool.and_eq_true] at h1 h2;rw [qi] at u;simp only [xL,Bool.and_eq_true] at h3;cases hs:kN o.op with
  | true=>
   rw [hs,cond_true] at h3;rw [if_pos hs] at u;obtain ⟨h',cj,u⟩:=u;obtain ⟨E,H,k0,k1,bX,eL⟩:=Mz h1.2 h2.2 h3.2 u;refine ⟨E,fun j=>match j with|0=>h|j+1=>H j,rfl,fun t aj=> ?_,bX,fun j aO ae=> ?_⟩
   ·simp only [List.all_cons,Bool.and_eq_true] at aj;exact k1 t aj.2
   ·cases j with
    | zero=>
     simp at ae;subst ae;refine .inl ⟨hs,?_⟩;have al:∀t∈pH o.op,E t=e t:=fun t aj=>by
      have:=List.all_eq_true.1 h1.1 t aj;simp only [List.all_cons,Bool.and_eq_true] at this;exact k1 t this.2
     rw [KY hs al];show oP P o.op (aS e) h fun x=>x=H 0;rw [k0];exact cj
    | succ j=>exact eL j aO (by simpa using ae)
  | false=>
   rw [hs,cond_false] at h3;rw [if_neg (by simp [hs])] at u;obtain ⟨v,aI,u⟩:=u;obtain ⟨E,H,k0,k1,bX,eL⟩:=Mz h1.2 h2.2 h3.2 u;have AJ:pH o.op=iQ o.op:=by
    cases aQ:o.op<;>first|rfl|(rw [aQ] at hs;cases hs)
   refine ⟨E,fun j=>match j with|0=>h|j+1=>H j,rfl,fun t aj=> ?_,bX,fun j aO ae=> ?_⟩
   ·simp only [List.all_cons,Bool.and_eq_true] at aj;rw [k1 t aj.2];cases hd:o.dst with
    | none=>rfl
    | some d=>rw [cM,aZ,if_neg (fun e=>by rw [hd,e] at aj;simp at aj)]
   ·cases j with
    | zero=>
     simp at ae;subst ae;refine .inr ⟨hs,k0,fun h'=> ?_⟩;have al:∀t∈iQ o.op,E t=e t:=fun t aj=>by
      have:=List.all_eq_true.1 h1.1 t (by rw [AJ];exact aj);simp only [List.all_cons,Bool.and_eq_true] at this;rw [k1 t this.2];cases hd:o.dst with
      | none=>rfl
      | some d=>rw [cM,aZ,if_neg (fun e=>by rw [hd,e] at this;simp at this)]
     rw [zf h3.1 al];refine y7 (fun ai h' bQ ⟨r1,r2,r3⟩=>⟨r1,r2,?_⟩) (aI h');cases hd:o.dst with
     | none=>trivial
     | some d=>
      rw [Ti,r3,k1 d ?_,hd,cM,aZ,if_pos rfl];have:=h2.1.2;rw [hd] at this;simpa using this
    | succ j=>exact eL j aO (by simpa using ae)
theorem E8:∀{l:List Oper},xL l=true->∀{i:Nat} {o:Oper},l[i]? =some o->(kN o.op=true->o.dst=none)/\(kN o.op=false->vj o.op=true)
 | [],_,i,o,hi=>by simp at hi
 | a::l,h,i,o,hi=>by
  simp only [xL,Bool.and_eq_true] at h;cases i with
  | zero=>
   simp at hi;subst hi;refine ⟨fun q=> ?_,fun q=> ?_⟩
   ·rw [q,cond_true] at h;exact Option.isNone_iff_eq_none.1 h.1
   ·rw [q,cond_false] at h;exact h.1
  | succ i=>exact E8 h.2 (by simpa using hi)
theorem J4{l:List Oper}{d:List Deferred}{N:Env->List Deferred->ah->ab->Prop}(lR:P.follows .mixedOrders=true)(h1:od l=true)(h2:nu 0 l=true)(h3:xL l=true)(h4:atH l=true)(h5:Hi l=true)(h6:(l.all fun o=>arc l o)=true){e0:Env}{s:ah}{h0:ab}
  (u:qi P main S b s l e0 h0 fun E h=>N E d s h) (t:Nat):gk P main S b l.toArray (Region.schedule (P.follows .mixedOrders) l.toArray t) e0 d s h0 N:=by
 obtain ⟨E,H,k0,k1,bX,eL⟩:=Mz h5 h1 h3 u;have aH:l.toArray.size=l.length:=by simp
 have sV:∀n m,m+n<=l.length->(∀j,m<=j->j<m+n->iX l j=false)->H m=H (m+n):=by
  intro n
  induction n with
  | zero=>intros;rfl
  | succ n aN=>
   intro m hm ae;have af:m+n<l.length:=by omega
   have e1:=aN m (by omega) fun j a b=>ae j a (by omega);have e2:=ae (m+n) (by omega) (by omega);have aG:l[m+n]? =some l[m+n]:=by simp [af]
   rw [e1];rcases eL _ _ aG with q|q
   ·rw [iX,aG] at e2;have e3:kN l[m+n].op=false:=e2;rw [q.1] at e3;cases e3
   ·rw [show m+(n+1)=m+n+1 by omega,q.2.1]
 unfold Region.schedule;rw [lR,Bool.true_or,if_pos rfl];refine y1 (by simpa using h2) (fun D e ai h=>ai=s/\(∀t,l.all (fun aO=>aO.dst != some t)=true->e t=e0 t)/\(∀(i:Nat) (o:Oper) (t:Nat),l[i]? =some o->o.dst=some t->D i=true->e t=E t)/\∃m,m<=l.length/\h=H m/\∀j,j<l.length->iX l j=true->(D j=true↔j<m))
  (fun D l5 e ai h lZ ⟨fA,an,az,m,aB,aX,cp⟩=> ?_) (fun D e ai h i o ⟨fA,an,az,m,aB,aX,cp⟩ hi iv aQ nY=> ?_) (fun D e ai h ⟨fA,an,az,m,aB,aX,cp⟩ kn=> ?_) ⟨rfl,fun _ _=>rfl,fun i o t _ _ du=>(Bool.false_ne_true du).elim,0,Nat.zero_le _,k0.symm,fun j _ _=>⟨fun q=>(Bool.false_ne_true q).elim,fun q=>by omega⟩⟩ t
 ·refine ⟨fA,an,fun i o t hi aj du=>az i o t hi aj (by rw [lZ i (by rw [aH];exact (List.getElem?_eq_some_iff.1 hi).1)];exact du),m,aB,aX,fun j ae hs=> ?_⟩;rw [<- lZ j (by rw [aH];exact ae)];exact cp j ae hs
 ·subst fA;rw [aH] at hi;have c9:l[i]? =some o:=by simpa using aQ
  have hw:Region.wanted o (kH l.toArray e)=true:=by simp [Region.wanted,zd h1 c9]
  rw [if_pos hw];have Qe:=List.all_eq_true.1 h6 o (List.mem_of_getElem? c9);have al:∀t∈pH o.op,e t=E t:=fun t aj=>by
   have:=List.all_eq_true.1 Qe t aj;simp only [Bool.or_eq_true] at this;rcases this with q|q
   ·rw [an t q,k1 t q]
   ·rw [List.any_eq_true] at q;obtain ⟨x,aa,q⟩:=q;simp only [Bool.and_eq_true,beq_iff_eq] at q;obtain ⟨aO,x2,fo⟩:=Option.bind_eq_some_iff.1 q.2;exact az x.on aO t x2 fo (nY x (by simpa using aa) q.1)
  obtain ⟨c1,c2⟩:=E8 h3 c9;have uq:∀(v:Value) (j:Nat) (aO:Oper) (bt:Nat),l[j]? =some aO->aO.dst=some bt->j≠i->cv e o.dst v bt=e bt:=fun v j aO bt ae gh ec=>by
   cases aj:o.dst with
   | none=>rfl
   | some t=>rw [cM,aZ,if_neg (fun e'=>ec (ze h1 ae c9 (by rw [gh,aj,e']) (by rw [gh];simp)))]
  have un:∀(v:Value) bt,l.all (fun aO=>aO.dst != some bt)=true->cv e o.dst v bt=e0 bt:=fun v bt ao=>by
   cases aj:o.dst with
   | none=>exact an bt ao
   | some t=>
    rw [cM,aZ,if_neg (fun e'=>by
     have:=List.all_eq_true.1 ao o (List.mem_of_getElem? c9);rw [aj,e'] at this;simp at this)]
    exact an bt ao
  refine EG (fun e' gE s2 h' q=>q) (tk ?_);rcases eL i o c9 with ⟨hs,cj⟩|⟨hs,nh,aI⟩
  ·have aBa:m<=i:=by
    have:=cp i hi (by rw [iX,c9];exact hs);rw [iv] at this;rcases Nat.lt_or_ge i m with q|q
    ·exact absurd (this.2 q) (by simp)
    ·exact q
   have aw8:H m=H i:=by
    have:=sV (i- m) m (by omega) fun j a b9=>by
     cases jf:iX l j with
     | false=>rfl
     | true=>
      have ec:j<i:=by omega
      have ma:=List.all_eq_true.1 (List.all_eq_true.1 h4 i (by simp [hi])) j (by simp [ec]);have DD:iX l i=true:=by rw [iX,c9];exact hs
      rw [jf,DD] at ma;simp only [Bool.and_self,Bool.not_true,Bool.false_or] at ma;rw [kK,c9] at ma;simp only [List.any_eq_true,Bool.and_eq_true,beq_iff_eq] at ma;obtain ⟨x,aa,e1,e2⟩:=ma;have:=nY x (by simpa using aa) e1;rw [e2] at this;have:=(cp j (by omega) jf).1 this;omega
    rw [show m+(i- m)=i by omega] at this;exact this
   have hd:=c1 hs;refine Vn hd ?_;rw [KY hs al,aX,aw8];refine Ud (fun h' e1=> ?_) cj;refine ⟨rfl,rfl,an,fun j aO bt ae gh du=> ?_,i+1,by omega,e1,fun j ae jf=> ?_⟩
   ·have ec:j≠i:=fun e=>by subst e;rw [c9] at ae;cases ae;rw [hd] at gh;cases gh
    simp only [if_neg ec] at du;exact az j aO bt ae gh du
   ·by_cases ec:j=i
    ·subst ec;simp
    ·simp only [if_neg ec];rw [cp j ae jf];constructor
     ·intro;omega
     ·intro bY;have atI:j<i:=by omega
      have ma:=List.all_eq_true.1 (List.all_eq_true.1 h4 i (by simp [hi])) j (by simp [atI]);have DD:iX l i=true:=by rw [iX,c9];exact hs
      rw [jf,DD] at ma;simp only [Bool.and_self,Bool.not_true,Bool.false_or] at ma;rw [kK,c9] at ma;simp only [List.any_eq_true,Bool.and_eq_true,beq_iff_eq] at ma;obtain ⟨x,aa,e1,e2⟩:=ma;have:=nY x (by simpa using aa) e1;rw [e2] at this;exact (cp j ae jf).1 this
  ·have hc:=c2 hs;have AJ:pH o.op=iQ o.op:=by
    cases aQ:o.op<;>first|rfl|(rw [aQ] at hs;cases hs)
   refine E7 hc ?_;rw [zf hc (fun t aj=>al t (by rw [AJ];exact aj))];refine y7 (fun s2 h' v ⟨r1,r2,r3⟩=> ?_) (aI h);subst r1;subst r2;refine ⟨rfl,rfl,un v,fun j aO bt ae gh du=> ?_,m,aB,aX,fun j ae jf=> ?_⟩
   ·by_cases ec:j=i
    ·subst ec;rw [c9] at ae;cases ae;rw [gh] at r3 ⊢;rw [cM,aZ,if_pos rfl];exact r3
    ·simp only [if_neg ec] at du;rw [uq v j aO bt ae gh ec];exact az j aO bt ae gh du
   ·have ec:j≠i:=fun e=>by
     subst e;rw [iX,c9] at jf;have e3:kN o.op=true:=jf;rw [hs] at e3;cases e3
    simp only [if_neg ec];exact cp j ae jf
 ·subst fA;have bO:e=E:=by
   funext bt;by_cases aj:l.all (fun aO=>aO.dst != some bt)=true
   ·rw [an bt aj,k1 bt aj]
   ·rw [Bool.not_eq_true,List.all_eq_false] at aj;obtain ⟨o,aQ,hd⟩:=aj;obtain ⟨i,hi⟩:=List.mem_iff_getElem?.1 aQ;exact az i o bt hi (by simpa using hd) (kn i (by rw [aH];exact (List.getElem?_eq_some_iff.1 hi).1))
  have nh:H m=H l.length:=by
   have:=sV (l.length- m) m (by omega) fun j a b9=>by
    cases jf:iX l j with
    | false=>rfl
    | true=>
     have:=(cp j (by omega) jf).1 (kn j (by rw [aH];omega));omega
   rw [show m+(l.length- m)=l.length by omega] at this;exact this
  subst bO;rw [aX,nh];exact bX
end
section
variable{P:Program}{main:Bool}{ah:Type}{S:Sys ah}{b:bn}{s:ah}{h:ab}{l:List Oper}{e:Env}{N:Env->ab->Prop}{dst:Option Nat}{op:Op}{ty:Nat}{pos:String}{es:Array Edge}{g:Option (Nat×Bool)}
theorem N9:qi P main S b s [] e h N=N e h:=rfl
theorem mi{v:Value}(hs:kN op=false)(u:∀h,eU P main S b ty op (aS e) s h fun ai h' bQ=>ai=s/\h'=h/\bQ=v)(k:qi P main S b s l (cv e dst v) h N):qi P main S b s (⟨dst,op,ty,pos,es,g⟩::l) e h N:=by
 rw [qi,if_neg (by simp [hs])];exact ⟨v,u,k⟩
theorem zM{t:Nat}{x y:Operand}{h':ab}(u:oP P (.store t x y) (aS e) h (fun x=>x=h'))(k:qi P main S b s l e h' N):qi P main S b s (⟨dst,.store t x y,ty,pos,es,g⟩::l) e h N:=by
 rw [qi,if_pos (show kN (Op.store t x y)=true from rfl)];exact ⟨h',u,k⟩
end
def jC(j:Nat):Nat:=if j%2=0 then 48+j/2/10 else 48+j/2%10
section
variable{P:Program}{h:ab}{f:Operand->Value}{K:ab->Prop}{t:Nat}{x y:Operand}
theorem n1:oP P (.store t x y) f h K=@bE _ _ (f x) ⟨fun bS=>@bE _ _ (f y) ⟨fun eS=>@au P _ (Instr.storeAt t bS eS) h ⟨fun _ h=>K h⟩⟩⟩:=rfl
end
section
variable{main:Bool}{ah:Type}{S:Sys ah}{s:ah}{h:ab}
theorem call157:bP Tryz.prog 157=true:=by kernel_rfl
theorem Ue{b:bn}{kk:IntKind}{i:Int}[K:hE ah]:iJ Tryz.prog main S b 206 199 (.int kk i) s h=K.f s h (.int .u32 (IntKind.u32.wrap i)):=CC Tryz.underlying206 Tryz.underlying199
theorem amw{b:bn}{kk:IntKind}{i:Int}[K:hE ah]:iJ Tryz.prog main S b 199 5 (.int kk i) s h=K.f s h (.int .u8 (IntKind.u8.wrap i)):=CC Tryz.underlying199 Tryz.underlying5
theorem aoS{n c:Nat}{arr:Array Value}{q:Nat}(h0:100<=n)(ao:n<1000)(g:h c=some ⟨.cells arr q (0,0),true⟩)(aA:arr.size=24):
  bI Tryz.prog main S 157 #[eO c 1 3 23,.int .u64 n] s h fun ai h' v=>ai=s/\h'=h.put c ⟨.cells (((arr.setIfInBounds 3 (.int .u8 (48+n%10:Nat))).setIfInBounds 2 (.int .u8 (48+n/10%10:Nat))).setIfInBounds 1 (.int .u8 (48+n/100:Nat))) q (0,0),true⟩:=by
 refine cc (args:=[eO c 1 3 23,.int .u64 n]) Tryz.func157 (by delta Tryz.f157;rfl) Tryz.ntmps157 (by simp) (by kernel_rfl) ?_;have gX:IntKind.u32.wrap (n:Int)=n:=sk (by omega) (.inr (.inl rfl));have r1:∀{x y:Operand} {h:ab} [K:KK Value],au Tryz.prog (cr .rem 199 x y (.int .u32 n) (.int .u32 100)) h=K.f (.int .u32 (n%100:Nat)) h:=fun {x y h K}=>KX (k:=.u32) (a:=n) (b:=100) rfl;have r2:∀{x y:Operand} {h:ab} [K:KK Value],au Tryz.prog (cr .quo 199 x y (.int .u32 n) (.int .u32 100)) h=K.f (.int .u32 (n/100:Nat)) h:=fun {x y h K}=>KW (k:=.u32) (a:=n) (b:=100) rfl rfl (by omega);have fi:IntKind.u32.wrap (((n%100:Nat):Int)*2)=((n%100*2:Nat):Int):=by
  rw [show ((n%100:Nat):Int)*2=((n%100*2:Nat):Int) by omega];exact sk (by omega) (.inr (.inl rfl))
 simp only [ad,seval];refine eG (I:=fun k e d cx aa=>e 0=eO c 1 3 23/\e 1=.int .u64 n/\e 4=.int .i64 3/\d=[]/\cx=s/\aa=h) (fun k e d cx aa bU=> ?_) (m:=0) ⟨by simp [ak],by simp [ak],by simp [ak],rfl,rfl,rfl⟩;obtain ⟨e0,e1,e4,rfl,rfl,rfl⟩:=bU;simp only [ad,seval,e0,e1,e4,show decide ((3:Int)>=8)=false from rfl,show decide ((3:Int)>=4)=false from rfl,show decide ((3:Int)>=2)=true from rfl,Ue,gX,r1,r2,fi,kJ];intro t;refine J4 hR (by kernel_rfl) (by kernel_rfl) (by kernel_rfl) (by kernel_rfl) (by kernel_rfl) (by kernel_rfl) ?_ t;have hm:n%100*2+1<200:=by omega
 have jk:IntKind.u32.wrap (((n%100*2:Nat):Int)+1)=((n%100*2+1:Nat):Int):=by
  rw [show ((n%100*2:Nat):Int)+1=((n%100*2+1:Nat):Int) by omega];exact sk (by omega) (.inr (.inl rfl))
 have s1:jC (n%100*2+1)=48+n%10:=by
  unfold jC;rw [if_neg (by omega)];omega
 have s2:jC (n%100*2)=48+n/10%10:=by
  unfold jC;rw [if_pos (by omega)];omega
 have wa:IntKind.i64.wrap 2=2:=rfl;have IQ:IntKind.i64.wrap 1=1:=rfl;have cl:(decide ((0:Int)<=2)&&decide ((2:Int)<((3:Nat):Int)))=true:=rfl;have bV:(decide ((0:Int)<=1)&&decide ((1:Int)<((3:Nat):Int)))=true:=rfl;have t1:(2:Int).toNat=2:=rfl;have t2:(1:Int).toNat=1:=rfl
 repeat refine mi rfl (fun h1=>by simp only [ad,seval,et,e0,e4,wa,IQ,cl,bV,t1,t2];exact rfl) ?_
 refine mi (v:=.int .u8 (48+n%10:Nat)) rfl (fun h1=> ?_) ?_
 ·simp only [ad,seval,et,jk,kj];refine ⟨by omega,vk (f:=jC) hm (by decide +kernel) ?_⟩;rw [s1];exact ⟨rfl,rfl,rfl⟩
 repeat refine mi rfl (fun h1=>by simp only [ad,seval,et,e0,e4,wa,IQ,cl,bV,t1,t2];exact rfl) ?_
 refine mi (v:=.int .u8 (48+n/10%10:Nat)) rfl (fun h1=> ?_) ?_
 ·simp only [ad,seval,et,kj];refine ⟨by omega,vk (f:=jC) (show n%100*2<200 by omega) (by decide +kernel) ?_⟩;rw [s2];exact ⟨rfl,rfl,rfl⟩
 repeat refine mi rfl (fun h1=>by simp only [ad,seval,et,e0,e4,wa,IQ,cl,bV,t1,t2];exact rfl) ?_
 refine zM (by simp only [ad,seval,n1,g,decide_eq_true (show 4<=arr.size by omega)];exact fun _ e=>e) ?_
 repeat refine mi rfl (fun h1=>by simp only [ad,seval,et,e0,e4,wa,IQ,cl,bV,t1,t2];exact rfl) ?_
 refine zM (by simp only [ad,seval,n1,y0,qc,Array.size_setIfInBounds,decide_eq_true (show 3<=arr.size by omega)];exact fun _ e=>e) ?_;rw [N9];have w4:IntKind.i64.wrap 1=1:=rfl;have pU:IntKind.u32.wrap (48+((n/100:Nat):Int))=((48+n/100:Nat):Int):=by
  rw [show 48+((n/100:Nat):Int)=((48+n/100:Nat):Int) by omega];exact sk (by omega) (.inr (.inl rfl))
 have b0:(decide ((0:Int)<=0)&&decide ((0:Int)<((3:Nat):Int)))=true:=rfl;simp only [ad,seval,e0,e4,w4,pU,amw,OU (show 48+n/100<256 by omega),show decide ((1:Int)>0)=true from rfl,b0,show (0:Int).toNat=0 from rfl,Nat.zero_mul,y0,qc,Array.size_setIfInBounds,decide_eq_true (show 1+1<=arr.size by omega)];exact fun h1 e=>nt Tryz.results157 ⟨rfl,e⟩
end
section
variable{main:Bool}{ah:Type}{S:Sys ah}{s:ah}{h:ab}
theorem atJ{m:Nat}(hm:m<100000):IntKind.u32.wrap (m:Int)=m:=sk (by omega) (.inr (.inl rfl))
theorem Ze{m:Nat}(hm:m<100000):IntKind.u32.wrap ((m:Int)*2)=((m*2:Nat):Int):=by
 rw [show (m:Int)*2=((m*2:Nat):Int) by omega];exact sk (by omega) (.inr (.inl rfl))
theorem Zf{m:Nat}(hm:m<100000):IntKind.u32.wrap ((m:Int)+1)=((m+1:Nat):Int):=by
 rw [show (m:Int)+1=((m+1:Nat):Int) by omega];exact sk (by omega) (.inr (.inl rfl))
theorem aoT{n c:Nat}{arr:Array Value}{q:Nat}(h0:1000<=n)(ao:n<10000)(g:h c=some ⟨.cells arr q (0,0),true⟩)(aA:arr.size=24):
  bI Tryz.prog main S 157 #[eO c 1 4 23,.int .u64 n] s h fun ai h' v=>ai=s/\h'=h.put c ⟨.cells ((((arr.setIfInBounds 4 (.int .u8 (48+n%10:Nat))).setIfInBounds 3 (.int .u8 (48+n/10%10:Nat))).setIfInBounds 2 (.int .u8 (48+n/100%10:Nat))).setIfInBounds 1 (.int .u8 (48+n/1000:Nat))) q (0,0),true⟩:=by
 refine cc (args:=[eO c 1 4 23,.int .u64 n]) Tryz.func157 (by delta Tryz.f157;rfl) Tryz.ntmps157 (by simp) (by kernel_rfl) ?_;have r1:∀{x y:Operand} {h:ab} [K:KK Value],au Tryz.prog (cr .rem 199 x y (.int .u32 n) (.int .u32 10000)) h=K.f (.int .u32 n) h:=fun {x y h K}=>by
  have:=KX (P:=Tryz.prog) (h:=h) (xt:=199) (x:=x) (y:=y) (K:=K) (k:=.u32) (a:=n) (b:=10000) rfl;rw [Nat.mod_eq_of_lt ao] at this;exact this
 have r2:∀{x y:Operand} {h:ab} [K:KK Value],au Tryz.prog (cr .quo 199 x y (.int .u32 n) (.int .u32 10000)) h=K.f (.int .u32 (n/10000:Nat)) h:=fun {x y h K}=>KW (k:=.u32) (a:=n) (b:=10000) rfl rfl (by omega);have r3:∀{x y:Operand} {h:ab} [K:KK Value],au Tryz.prog (cr .quo 199 x y (.int .u32 n) (.int .u32 100)) h=K.f (.int .u32 (n/100:Nat)) h:=fun {x y h K}=>KW (k:=.u32) (a:=n) (b:=100) rfl rfl (by omega);have gI:∀{x y:Operand} {h:ab} [K:KK Value],au Tryz.prog (cr .rem 199 x y (.int .u32 n) (.int .u32 100)) h=K.f (.int .u32 (n%100:Nat)) h:=fun {x y h K}=>KX (k:=.u32) (a:=n) (b:=100) rfl;have lo:n%100<100:=by omega
 have hi:n/100<100:=by omega
 simp only [ad,seval];refine eG (I:=fun k e d cx aa=>e 0=eO c 1 4 23/\e 1=.int .u64 n/\e 4=.int .i64 4/\d=[]/\cx=s/\aa=h) (fun k e d cx aa bU=> ?_) (m:=0) ⟨by simp [ak],by simp [ak],by simp [ak],rfl,rfl,rfl⟩;obtain ⟨e0,e1,e4,rfl,rfl,rfl⟩:=bU;simp only [ad,seval,e0,e1,e4,show decide ((4:Int)>=8)=false from rfl,show decide ((4:Int)>=4)=true from rfl,Ue,atJ (show n<100000 by omega),r1,r2,r3,gI,Ze (show n%100<100000 by omega),Ze (show n/100<100000 by omega),kJ];have w1:IntKind.i64.wrap 3=3:=rfl;have w2:IntKind.i64.wrap 2=2:=rfl;have w3:IntKind.i64.wrap 1=1:=rfl;have w4:IntKind.i64.wrap 0=0:=rfl;have b0:(decide ((0:Int)<=0)&&decide ((0:Int)<((4:Nat):Int)))=true:=rfl;have cl:(decide ((0:Int)<=1)&&decide ((1:Int)<((4:Nat):Int)))=true:=rfl;have bV:(decide ((0:Int)<=2)&&decide ((2:Int)<((4:Nat):Int)))=true:=rfl;have dz:(decide ((0:Int)<=3)&&decide ((3:Int)<((4:Nat):Int)))=true:=rfl;have t0:(0:Int).toNat=0:=rfl;have t1:(1:Int).toNat=1:=rfl;have t2:(2:Int).toNat=2:=rfl;have t3:(3:Int).toNat=3:=rfl;have wo:=Zf (show n%100*2<100000 by omega);have wq:=Zf (show n/100*2<100000 by omega);have Jx:∀m,m<100->jC (m*2+1)=48+m%10/\jC (m*2)=48+m/10:=fun m hm=>by
  unfold jC;rw [if_neg (by omega),if_pos (by omega)];omega
 intro t;refine J4 hR (by kernel_rfl) (by kernel_rfl) (by kernel_rfl) (by kernel_rfl) (by kernel_rfl) (by kernel_rfl) ?_ t
 repeat refine mi rfl (fun h1=>by simp only [ad,seval,et,e0,e4,w1,w2,w3,w4,b0,cl,bV,dz,t0,t1,t2,t3,wo,wq];exact rfl) ?_
 refine mi (v:=.int .u8 (48+n%10:Nat)) rfl (fun h1=> ?_) ?_
 ·simp only [ad,seval,et,kj];refine ⟨by omega,vk (f:=jC) (show (n%100)*2+1<200 by omega) (by decide +kernel) ?_⟩;rw [(Jx _ (by omega)).1,show (n%100)%10=n%10 by omega];exact ⟨rfl,rfl,rfl⟩
 repeat refine mi rfl (fun h1=>by simp only [ad,seval,et,e0,e4,w1,w2,w3,w4,b0,cl,bV,dz,t0,t1,t2,t3,wo,wq];exact rfl) ?_
 refine mi (v:=.int .u8 (48+n/10%10:Nat)) rfl (fun h1=> ?_) ?_
 ·simp only [ad,seval,et,kj];refine ⟨by omega,vk (f:=jC) (show (n%100)*2<200 by omega) (by decide +kernel) ?_⟩;rw [(Jx _ (by omega)).2,show (n%100)/10=n/10%10 by omega];exact ⟨rfl,rfl,rfl⟩
 repeat refine mi rfl (fun h1=>by simp only [ad,seval,et,e0,e4,w1,w2,w3,w4,b0,cl,bV,dz,t0,t1,t2,t3,wo,wq];exact rfl) ?_
 refine zM (by simp only [ad,seval,n1,g,decide_eq_true (show 5<=arr.size by omega)];exact fun _ e=>e) ?_
 repeat refine mi rfl (fun h1=>by simp only [ad,seval,et,e0,e4,w1,w2,w3,w4,b0,cl,bV,dz,t0,t1,t2,t3,wo,wq];exact rfl) ?_
 refine zM (by simp only [ad,seval,n1,y0,qc,Array.size_setIfInBounds,decide_eq_true (show 4<=arr.size by omega)];exact fun _ e=>e) ?_;rw [N9];simp only [ad,seval,e0,e4,kJ];intro t;refine J4 hR (by kernel_rfl) (by kernel_rfl) (by kernel_rfl) (by kernel_rfl) (by kernel_rfl) (by kernel_rfl) ?_ t
 repeat refine mi rfl (fun h1=>by simp only [ad,seval,et,e0,e4,w1,w2,w3,w4,b0,cl,bV,dz,t0,t1,t2,t3,wo,wq];exact rfl) ?_
 refine mi (v:=.int .u8 (48+n/100%10:Nat)) rfl (fun h1=> ?_) ?_
 ·simp only [ad,seval,et,kj];refine ⟨by omega,vk (f:=jC) (show (n/100)*2+1<200 by omega) (by decide +kernel) ?_⟩;rw [(Jx _ (by omega)).1,show (n/100)%10=n/100%10 by omega];exact ⟨rfl,rfl,rfl⟩
 repeat refine mi rfl (fun h1=>by simp only [ad,seval,et,e0,e4,w1,w2,w3,w4,b0,cl,bV,dz,t0,t1,t2,t3,wo,wq];exact rfl) ?_
 refine mi (v:=.int .u8 (48+n/1000:Nat)) rfl (fun h1=> ?_) ?_
 ·simp only [ad,seval,et,kj];refine ⟨by omega,vk (f:=jC) (show (n/100)*2<200 by omega) (by decide +kernel) ?_⟩;rw [(Jx _ (by omega)).2,show (n/100)/10=n/1000 by omega];exact ⟨rfl,rfl,rfl⟩
 repeat refine mi rfl (fun h1=>by simp only [ad,seval,et,e0,e4,w1,w2,w3,w4,b0,cl,bV,dz,t0,t1,t2,t3,wo,wq];exact rfl) ?_
 refine zM (by simp only [ad,seval,n1,y0,qc,Array.size_setIfInBounds,decide_eq_true (show 3<=arr.size by omega)];exact fun _ e=>e) ?_
 repeat refine mi rfl (fun h1=>by simp only [ad,seval,et,e0,e4,w1,w2,w3,w4,b0,cl,bV,dz,t0,t1,t2,t3,wo,wq];exact rfl) ?_
 refine zM (by simp only [ad,seval,n1,y0,qc,Array.size_setIfInBounds,decide_eq_true (show 2<=arr.size by omega)];exact fun _ e=>e) ?_;rw [N9];simp only [ad,seval,e0,e4,w4,show decide ((0:Int)>=2)=false from rfl,show decide ((0:Int)>0)=false from rfl];exact nt Tryz.results157 ⟨rfl,rfl⟩
end
def bv(l:List UInt8):List Value:=l.map fun w=>.int .u8 w.toNat
section
variable{P:Program}{h:ab}
theorem Wz(acc:List UInt8)(w:UInt8):(⟨⟨acc⟩⟩:ByteArray).push w=⟨⟨acc++[w]⟩⟩:=by
 apply ByteArray.ext;apply Array.toList_inj.1;simp [ByteArray.push]
theorem aw9{b o n dS:Nat}{bs:List UInt8}(hc:h.iU ⟨b,o,none⟩ 0 n=some (bv bs))(Q:Value->ab->Prop):bf P (Conv.bytesToString (eO b o n dS)) h Q=Q (aW bs) h:=by
 unfold Conv.bytesToString;simp only [aV];rw [JH hc];simp only [List.forIn_toArray,aV];have key:∀(bs acc:List UInt8) (R:ByteArray->ab->Prop),bf P (forIn (bv bs) (⟨⟨acc⟩⟩:ByteArray) fun c s=>(match c with|.int .u8 n=>pure (ForInStep.yield (s.push (UInt8.ofNat n.toNat)))|_=>(do stuck "bytesToString: byte expected";pure (ForInStep.yield s)):Sem (ForInStep ByteArray))) h R=R ⟨⟨acc++bs⟩⟩ h:=by
  intro bs
  induction bs with
  | nil=>intro acc R;simp [bv,bh]
  | cons w bs aN=>
   intro acc R;have:=aN (acc++[w]) R;simp only [bv,List.map_cons,List.forIn_cons,aV,bh] at this ⊢;rw [Wz,show UInt8.ofNat ((w.toNat:Int).toNat)=w by simp,this];simp
 exact (key bs [] _).trans (by rw [List.nil_append,bh])
theorem Yk{t u e b o n dS:Nat}{bs:List UInt8}{main:Bool}{ah:Type}{S:Sys ah}{fb:bn}{s:ah}(aj:P.underlying t=some (.slice e))(he:P.underlying e=some (.int .u8))(hu:P.underlying u=some .string)(hc:h.iU ⟨b,o,none⟩ 0 n=some (bv bs)){K:ah->ab->Value->Prop}(k:K s h (aW bs)):@iJ P main _ S fb t u (eO b o n dS) s h ⟨K⟩:=by
 show @au P _ (convert t u (eO b o n dS)) h ⟨fun v h=>K s h v⟩;simp only [au,convert,aV,df,aj,hu,he];rw [aw9 hc];exact k
theorem Hj{t c n e lo hi:Nat}(aj:P.underlying t=some (.array n e))(he:cy P e=some 1)(h1:lo<=hi)(h2:hi<=n)(h3:n≠lo){K:Value->ab->Prop}(k:K (eO c (0+lo) (hi- lo) (n- lo)) h):@au P _ (Instr.sliceAt t (bL c 0) (some (.int .i64 lo)) (some (.int .i64 hi)) none) h ⟨K⟩:=by
 simp only [au,Instr.sliceAt,aV,df,aj,Instr.sureAddr,bh];refine EF (.inl ⟨_,rfl,h2⟩) (.inl ⟨_,rfl,h1⟩) _ ?_;simp only [aV,gL,he,bh,if_neg h3,k5,Nat.mul_one];exact k
end
section
variable{main:Bool}{ah:Type}{S:Sys ah}{s:ah}{h:ab}
theorem yf{k:Nat}(hk:k<10):Value.int .u8 ((iT k).toNat:Nat)=.int .u8 (48+k:Nat):=by
 have:(iT k).toNat=48+k:=by unfold iT;simp;omega
 rw [this]
theorem call109:bP Tryz.prog 109=true:=by kernel_rfl
theorem call71:bP Tryz.prog 71=true:=by kernel_rfl
theorem call36:bP Tryz.prog 36=true:=by kernel_rfl
theorem ard:xJ Tryz.prog 274=true:=by kernel_rfl
theorem HR:(sT Tryz.prog 274).size=24:=by kernel_rfl
theorem GH:Tryz.prog.underlying 274=some (.array 24 5):=by kernel_rfl
theorem jl:cy Tryz.prog 5=some 1:=by kernel_rfl
theorem amx{b:bn}{kk:IntKind}{i:Int}[K:hE ah]:iJ Tryz.prog main S b 2 206 (.int kk i) s h=K.f s h (.int .u64 (IntKind.u64.wrap i)):=CC (by kernel_rfl:Tryz.prog.underlying 2=some (.int .i64)) Tryz.underlying206
theorem ajC{n:Nat}(ao:n<10000)(aj:oe h):bI Tryz.prog main S 109 #[.int .i64 n,.int .i64 10] s h fun ai h' v=>ai=s/\h.aD h'/\v=aW (dec n):=by
 refine cc (args:=[.int .i64 n,.int .i64 10]) Tryz.func109 (by delta Tryz.f109;rfl) Tryz.ntmps109 (by simp) (by kernel_rfl) ?_;have hA:((10:Int)==10)=true:=rfl;by_cases h1:n<100
 ·simp only [ad,seval,hA,decide_eq_true (show (0:Int)<=n by omega),decide_eq_true (show (n:Int)<100 by omega)];refine eQ call155 (amv h1 _ _) ?_;simp only [ad,seval];exact bT Tryz.results109 (by simp) ⟨rfl,.lC _,by simp [ak]⟩
 ·have gX:IntKind.u64.wrap (n:Int)=n:=sk (by omega) (.inl rfl);simp only [ad,seval,hA,decide_eq_true (show (0:Int)<=n by omega),decide_eq_false (show ¬(n:Int)<100 by omega),ard];intro c h2 hc e2;have bM:=cS hc e2;have g2:=cq e2;simp only [ad,seval,amx,gX,decide_eq_false (show ¬(n:Int)<0 by omega)];refine c0 call156 (adJ (by omega) ao (oe.le bM aj)) fun fQ h3 v ⟨an,az,aB⟩=> ?_;subst an;subst az;subst aB;have w1:IntKind.i64.wrap (1+((fK n:Nat):Int))=((1+fK n:Nat):Int):=by
   have:fK n<=4:=by unfold fK;split<;>omega
   rw [dw (by omega) (by omega)];omega
  simp only [ad,seval,w1];by_cases hk:n<1000
  ·skip
   have ma:fK n=3:=by unfold fK;rw [if_pos hk]
   rw [ma];refine Hj (lo:=1) (hi:=1+3) GH jl (by omega) (by omega) (by decide) ?_;simp only [ad,seval];refine c0 call157 (aoS (by omega) (by omega) g2 HR) fun eW h4 v ⟨an,az⟩=> ?_;subst an;have g4:=cq az;have cd:h.aD h4:=fq bM hc az;simp only [ad,seval,decide_eq_false (show ¬(n:Int)<0 by omega),ma,show IntKind.i64.wrap (1+((3:Nat):Int))=((1+3:Nat):Int) from rfl];refine Hj (lo:=1) (hi:=1+3) GH jl (by omega) (by omega) (by decide) ?_;simp only [ad,seval];refine Yk (bs:=[iT (n/100),iT (n/10%10),iT (n%10)]) Tryz.underlying87 Tryz.underlying5 Tryz.underlying9 ?_ ?_
   ·rw [pj g4];have aH:=HR;generalize sT Tryz.prog 274=arr at aH;show lM 1 3 _=_;simp only [bv,List.map_cons,List.map_nil,yf (show n/100<10 by omega),yf (show n/10%10<10 by omega),yf (show n%10<10 by omega)];simp [lM,Array.getElem?_setIfInBounds,aH,q9]
   ·simp only [ad,seval];exact bT Tryz.results109 (by simp) ⟨rfl,cd,by simp [ak,dec,h1,show ¬n<10 by omega,hk]⟩
  ·skip
   have ma:fK n=4:=by unfold fK;rw [if_neg hk]
   rw [ma];refine Hj (lo:=1) (hi:=1+4) GH jl (by omega) (by omega) (by decide) ?_;simp only [ad,seval];refine c0 call157 (aoT (by omega) (by omega) g2 HR) fun eW h4 v ⟨an,az⟩=> ?_;subst an;have g4:=cq az;have cd:h.aD h4:=fq bM hc az;simp only [ad,seval,decide_eq_false (show ¬(n:Int)<0 by omega),ma,show IntKind.i64.wrap (1+((4:Nat):Int))=((1+4:Nat):Int) from rfl];refine Hj (lo:=1) (hi:=1+4) GH jl (by omega) (by omega) (by decide) ?_;simp only [ad,seval];refine Yk (bs:=[iT (n/1000),iT (n/100%10),iT (n/10%10),iT (n%10)]) Tryz.underlying87 Tryz.underlying5 Tryz.underlying9 ?_ ?_
   ·rw [pj g4];have aH:=HR;generalize sT Tryz.prog 274=arr at aH;show lM 1 4 _=_;simp only [bv,List.map_cons,List.map_nil,yf (show n/1000<10 by omega),yf (show n/100%10<10 by omega),yf (show n/10%10<10 by omega),yf (show n%10<10 by omega)];simp [lM,Array.getElem?_setIfInBounds,aH,q9]
   ·simp only [ad,seval];exact bT Tryz.results109 (by simp) ⟨rfl,cd,by simp [ak,dec,h1,show ¬n<10 by omega,hk]⟩
theorem amy{n:Nat}(ao:n<10000)(aj:oe h):bI Tryz.prog main S 71 #[.int .i64 n] s h fun ai h' v=>ai=s/\h.aD h'/\v=aW (dec n):=by
 refine cc (args:=[.int .i64 n]) Tryz.func71 (by delta Tryz.f71;rfl) Tryz.ntmps71 (by simp) (by kernel_rfl) ?_;simp only [ad,seval];refine c0 call109 (ajC ao aj) fun s2 h2 v ⟨an,az,aB⟩=> ?_;subst an;subst aB;simp only [ad,seval];exact bT Tryz.results71 (by simp) ⟨rfl,az,by simp [ak]⟩
theorem aoU{n:Nat}(ao:n<10000)(aj:oe h):bI Tryz.prog main S 36 #[.int .i64 n] s h fun ai h' v=>ai=s/\h.aD h'/\v=aW (dec n):=by
 refine cc (args:=[.int .i64 n]) Tryz.func36 (by delta Tryz.f36;rfl) Tryz.ntmps36 (by simp) (by kernel_rfl) ?_;simp only [ad,seval];refine c0 call71 (amy ao aj) fun s2 h2 v ⟨an,az,aB⟩=> ?_;subst an;subst aB;simp only [ad,seval];exact bT Tryz.results36 (by simp) ⟨rfl,az,by simp [ak]⟩
end
section
variable{P:Program}{h:ab}
theorem Br{c:Nat}{arr:Array Value}{q:Nat}{f:Nat×Nat}{w:Bool}(g:h c=some ⟨.cells arr q f,w⟩)(Q:Option (TypeId×Nat)->ab->Prop):bf P (shape c) h Q=Q (some (q,arr.size)) h:=by
 show ((h c).isSome=true/\Q (h.shape? c) h)=_;simp [ab.shape?,g]
theorem Uf{c:Nat}{arr:Array Value}{q:Nat}{f:Nat×Nat}{w:Bool}(g:h c=some ⟨.cells arr q f,w⟩)(Q:Addr->ab->Prop):bf P (Conv.seenAt ⟨c,0,none⟩) h Q=Q ⟨c,0,none⟩ h:=by
 simp only [Conv.seenAt,viewAt,aV];rw [Br g];simp only [Option.isSome_some,if_true,bh]
theorem are{t u e c:Nat}{arr:Array Value}{q:Nat}{f:Nat×Nat}{w:Bool}{main:Bool}{ah:Type}{S:Sys ah}{fb:bn}{s:ah}(aj:P.underlying t=some (.pointer e))(hu:P.underlying u=some .unsafePointer)(hs:(cy P e).isSome=true/\m9 P e≠0)(g:h c=some ⟨.cells arr q f,w⟩)(aA:0<arr.size){K:ah->ab->Value->Prop}(k:K s h (bL c 0)):@iJ P main _ S fb t u (bL c 0) s h ⟨K⟩:=by
 obtain ⟨m,hm⟩:=Option.isSome_iff_exists.1 hs.1;have Ii:m≠0:=by have:=hs.2;simpa [m9,hm] using this
 show (if (h c).isSome then @au P _ (convert t u (bL c 0)) h ⟨fun v h=>K s h v⟩ else _);rw [if_pos (by rw [g];rfl)];simp only [au,convert,aV,df,aj,hu,Conv.unsafePointer];rw [Uf g];simp only [cellsIn,aV];rw [Br g];simp only [bh,gL,hm];have e1:(decide (m=0)||(decide (0>=arr.size)&&(none:Option Nat).isNone))=false:=by rw [decide_eq_false Ii,decide_eq_false (by omega)];rfl
 rw [if_neg (by rw [e1];exact Bool.false_ne_true)];exact k
theorem amz{t u e c:Nat}{arr:Array Value}{q:Nat}{f:Nat×Nat}{w:Bool}{main:Bool}{ah:Type}{S:Sys ah}{fb:bn}{s:ah}(aj:P.underlying t=some (.pointer e))(hu:P.underlying u=some .unsafePointer)(hs:(cy P e).isSome=true/\m9 P e≠0)(g:h c=some ⟨.cells arr q f,w⟩)(af:liesAt P P.depth q (arr.size/P.cellsOf q) 0 e 1=true){K:ah->ab->Value->Prop}(k:K s h (bL c 0)):@iJ P main _ S fb u t (bL c 0) s h ⟨K⟩:=by
 obtain ⟨m,hm⟩:=Option.isSome_iff_exists.1 hs.1;have Ii:m≠0:=by have:=hs.2;simpa [m9,hm] using this
 show (if (h c).isSome then @au P _ (convert u t (bL c 0)) h ⟨fun v h=>K s h v⟩ else _);rw [if_pos (by rw [g];rfl)];simp only [au,convert,aV,df,aj,hu,Conv.unsafePointer];rw [Uf g];simp only [variablesAt,aV,gL,hm,mJ];rw [Br g];simp only [bh,af,Bool.or_true,if_true];exact k
end
section
variable{P:Program}{h:ab}{t e:Nat}{x y:Operand}
theorem aoV(aj:P.underlying t=some (.pointer e)){Q:Bool->ab->Prop}:bf P (Op.equal t (.pointer none) (.pointer none)) h Q=Q true h:=by
 rw [yX];generalize 9999=d;rw [Op.equalIn];simp only [aV,df,aj];rfl
theorem amA(aj:P.underlying t=some (.pointer e)){a:Addr}{Q:Bool->ab->Prop}:bf P (Op.equal t (.pointer (some a)) (.pointer none)) h Q=Q false h:=by
 rw [yX];generalize 9999=d;rw [Op.equalIn];simp only [aV,df,aj];rfl
theorem amB(aj:P.underlying t=some (.pointer e)){m:Nat}(hs:cy P e=some (m+1)){a:Addr}{Q:Bool->ab->Prop}:bf P (Op.equal t (.pointer (some a)) (.pointer (some a))) h Q=Q true h:=by
 rw [yX];generalize 9999=d;rw [Op.equalIn];simp only [aV,df,aj,gL,hs];simp [sameAddr,bh,aV]
theorem aoW(aj:P.underlying t=some (.pointer e))[K:KK Value]:au P (cr .eql t x y (.pointer none) (.pointer none)) h=K.f (.bool true) h:=by
 have q:(do eqGuard .eql t x y (.pointer none) (.pointer none);binOp .eql t (.pointer none) (.pointer none):Sem Value)=(do pure (.bool (<- Op.equal t (.pointer none) (.pointer none)))):=rfl;unfold au cr;rw [q,aV,aoV aj,bh]
theorem aoX(aj:P.underlying t=some (.pointer e)){a:Addr}[K:KK Value]:au P (cr .eql t x y (.pointer (some a)) (.pointer none)) h=K.f (.bool false) h:=by
 have q:(do eqGuard .eql t x y (.pointer (some a)) (.pointer none);binOp .eql t (.pointer (some a)) (.pointer none):Sem Value)=(do pure (.bool (<- Op.equal t (.pointer (some a)) (.pointer none)))):=rfl;unfold au cr;rw [q,aV,amA aj,bh]
theorem aoY(aj:P.underlying t=some (.pointer e)){m:Nat}(hs:cy P e=some (m+1)){a:Addr}[K:KK Value]:au P (cr .neq t x y (.pointer (some a)) (.pointer (some a))) h=K.f (.bool false) h:=by
 have q:(do eqGuard .neq t x y (.pointer (some a)) (.pointer (some a));binOp .neq t (.pointer (some a)) (.pointer (some a)):Sem Value)=(do pure (.bool (!(<- Op.equal t (.pointer (some a)) (.pointer (some a)))))):=rfl;unfold au cr;rw [q,aV,amB aj hs,bh];rfl
end
section
variable{main:Bool}{ah:Type}{S:Sys ah}{s:ah}{h:ab}
theorem call70:bP Tryz.prog 70=true:=by kernel_rfl
theorem aaT:cy Tryz.prog 89=some (1+1):=by kernel_rfl
theorem aoZ:liesAt Tryz.prog Tryz.prog.depth 89 (2/Tryz.prog.cellsOf 89) 0 89 1=true:=by kernel_rfl
theorem Zg:(cy Tryz.prog 89).isSome=true/\m9 Tryz.prog 89≠0:=by rw [m9,aaT];exact ⟨rfl,by decide⟩
theorem XN:Tryz.prog.underlying 170=some .unsafePointer:=by kernel_rfl
theorem arf{x y:Operand}[K:KK Value]:au Tryz.prog (cr .eql 86 x y (.pointer none) (.pointer none)) h=K.f (.bool true) h:=aoW Tryz.underlying86
theorem arh{x y:Operand}{a:Addr}[K:KK Value]:au Tryz.prog (cr .eql 86 x y (.pointer (some a)) (.pointer none)) h=K.f (.bool false) h:=aoX Tryz.underlying86
theorem ari{x y:Operand}{a:Addr}[K:KK Value]:au Tryz.prog (cr .neq 86 x y (.pointer (some a)) (.pointer (some a))) h=K.f (.bool false) h:=aoY Tryz.underlying86 aaT
theorem arj{P:Program}{x:Value}{K:Value->ab->Prop}(k:K x h):@au P _ (Extern.AbiNoEscape.same #[x]) h ⟨K⟩:=k
theorem adK{c:Nat}{p sl:Value}(aK:p=.pointer none\/p=bL c 0)(g:h c=some ⟨.cells #[p,sl] 89 (0,0),true⟩):
  bI Tryz.prog main S 70 #[bL c 0] s h fun ai h' v=>ai=s/\h'=h.put c ⟨.cells #[bL c 0,sl] 89 (0,0),true⟩:=by
 refine cc (args:=[bL c 0]) Tryz.func70 (by delta Tryz.f70;rfl) Tryz.ntmps70 (by simp) (by kernel_rfl) ?_;rcases aK with rfl|rfl
 ·simp only [ad,seval,g,arf];refine are Tryz.underlying86 XN Zg g (by simp) ?_;simp only [ad,seval];refine eX.native (K:=⟨_⟩) Tryz.func108 (by kernel_rfl) (by kernel_rfl) (by kernel_rfl) (x:=Extern.AbiNoEscape.same) (by kernel_rfl) ?_;refine arj ?_;simp only [ad,seval];refine amz Tryz.underlying86 XN Zg g aoZ ?_;simp only [ad,seval,g];exact fun h1 e=>nt Tryz.results70 ⟨rfl,e⟩
 ·simp only [ad,seval,g,arh,ari];exact nt Tryz.results70 ⟨rfl,(ps g).symm⟩
end
theorem Ug:∀(r n c:Nat),c<2*n+300->Builtin.growBy n r c<2*n+300
 | 0,n,c,h=>by rw [Builtin.growBy];exact h
 | r+1,n,c,h=>by
  rw [Builtin.growBy];split
  ·exact h
  ·exact Ug r n _ (by omega)
theorem adL{n c:Nat}(h2:c<n):Builtin.nextslicecap n c<=2*n+300:=by
 unfold Builtin.nextslicecap;split
 ·omega
 ·split
  ·omega
  ·have:=Ug 4 n c (by omega);omega
theorem Uh{P:Program}{h:ab}{K:Value->ab->Prop}{t t2 el bo bs:Nat}{ty:TypeId}{z:Value}(aj:P.underlying t=some (.slice el))(lk:P.underlying t2=some .string)(hs:cy P el=some bo)(fv:bytesOf P el=some bs)(aH:zeroOf P el=some z)(ks:z.cells.size=bo)(oU:1<=bo)(rz:1<=bs)
  {base:Option Addr} {len cap:Nat} {IS:List UInt8} {m:Nat} {new':List Value} (hm:m=(⟨⟨IS⟩⟩:ByteArray).size) (qq:∀Q,bf P (Builtin.firstCells bo m (aW IS)) h Q=Q ⟨new'⟩ h)
  (inPlace:len+m<=cap->match base with|some a=>oI h (a.add (len*bo)) 0 new' (fun h=>K (.slice base (len+m) cap) h)|none=>K (.slice base (len+m) cap) h)
  (grow:cap<len+m->len+m<=200000/\bs<=1000/\∃kQ,(∀Q,bf P (Builtin.firstCells bo len (.slice base len cap)) h Q=Q ⟨kQ⟩ h)/\∀kI,len+m<=kI->∀b,h b=none->∀rest:List Value,rest.length=(kI- (len+m))*bo->K (.slice (some ⟨b,0,none⟩) (len+m) kI) (h.put b ⟨.cells ⟨kQ++new'++rest⟩ el,true⟩)):
  bf P (Builtin.append_ ⟨[t,t2]⟩ ty ⟨[.slice base len cap,aW IS]⟩) h K:=by
 subst hm;generalize QB:(⟨⟨IS⟩⟩:ByteArray).size=m at*
 obtain ⟨fp,uh,jc⟩:∃fp,P.info? el=some fp/\fp.bytes=bs:=by
  unfold bytesOf at fv;cases aE:P.info? el with
  | none=>rw [aE] at fv;cases fv
  | some fp=>rw [aE] at fv;cases fv;exact ⟨fp,rfl,rfl⟩
 simp only [Builtin.append_,List.getElem?_toArray,List.getElem?_cons_zero,List.getElem?_cons_succ,aV,df,aj,lk,gL,hs,bh,Bool.false_eq_true,if_false,Builtin.lenOf,QB,Bool.not_false,if_true];by_cases hc:len+m<=cap
 ·rw [if_pos hc];simp only [aV,qq];have:=inPlace hc;cases base with
  | none=>exact this
  | some a=>simp only [aV,Bp];exact this
 ·rw [if_neg hc];obtain ⟨g1,g2,kQ,g3,g4⟩:=grow (by omega);simp only [aV];rw [u5 uh];have db:¬(((len+m:Nat):Int)>IntKind.i64.max/\(False\/fp.bytes=0)):=by
   rw [jc];rintro ⟨_,h|h⟩
   ·exact h
   ·omega
  have dB:¬(Builtin.nextslicecap (len+m) cap*fp.bytes>2^48):=by
   have h3:=adL (show cap<len+m by omega);have h4:Builtin.nextslicecap (len+m) cap*fp.bytes<=(2*(len+m)+300)*1000:=Nat.mul_le_mul h3 (by rw [jc];exact g2);have:(2*(len+m)+300)*1000<=2^48:=by omega
   omega
  rw [if_neg (by simpa using db)];simp only [aV];rw [u5 uh,if_neg dB];simp only [aV,yS,Question.forced,Bool.false_eq_true,if_false];intro nP;rw [u5 uh];simp only [Ep,g3,qq,iD,aH,newRow,aV,qX,bh];intro b hb;have Pb:len+m<=(Question.appendCap (len+m) cap el).cut nP:=by
   show len+m<=len+m+_;exact Nat.le_add_right _ _
  have:=g4 _ Pb b hb (Builtin.zeroCells z.cells ((Question.appendCap (len+m) cap el).cut nP- (len+m))).toList (by rw [JL ks oU];simp only [Et,Array.length_toList,ks]);have e1:(⟨kQ⟩++⟨new'⟩++Builtin.zeroCells z.cells ((Question.appendCap (len+m) cap el).cut nP- (len+m)):Array Value)=⟨kQ++new'++(Builtin.zeroCells z.cells ((Question.appendCap (len+m) cap el).cut nP- (len+m))).toList⟩:=by
   apply Array.toList_inj.1;simp
  rw [e1];exact this
def sW(h0 h:ab)(sl:Value)(l:List UInt8):Prop:=(l=[]/\sl=.slice none 0 0)\/∃b cap arr,sl=eO b 0 l.length cap/\h0 b=none/\h b=some ⟨.cells arr 5 (0,0),true⟩/\arr.size=cap/\l.length<=cap/\arr.toList.take l.length=bv l
theorem XO(l m:List UInt8):bv (l++m)=bv l++bv m:=by simp [bv]
theorem zN(l:List UInt8):(bv l).length=l.length:=by simp [bv]
theorem XP{P:Program}{h:ab}{m:List UInt8}(Q:Array Value->ab->Prop):bf P (Builtin.firstCells 1 m.length (aW m)) h Q=Q ⟨bv m⟩ h:=by
 have:(((⟨⟨m⟩⟩:ByteArray).extract 0 m.length).data.map fun b=>Value.int .u8 b.toNat)=⟨bv m⟩:=by
  rw [tb];apply Array.toList_inj.1;simp [bv]
 show bf P (pure _) h Q=_;rw [bh,this]
theorem ES{arr:Array Value}:∀(n o:Nat),o+n<=arr.size->lM o n arr=some ((arr.toList.drop o).take n)
 | 0,o,_=>by simp [lM]
 | n+1,o,h=>by
  rw [lM,ES n (o+1) (by omega)];have aQ:o<arr.size:=by omega
  rw [Array.getElem?_eq_getElem aQ];have:arr.toList.drop o=arr[o]::arr.toList.drop (o+1):=by rw [List.drop_eq_getElem_cons (by simpa using aQ)];simp
  rw [this];rfl
theorem MA:∀(vs:List Value) (o:Nat) (arr:Array Value),o+vs.length<=arr.size->((vs.foldl (fun a v=>(a.1+1,a.2.setIfInBounds a.1 v)) (o,arr)).2.size=arr.size)/\((vs.foldl (fun a v=>(a.1+1,a.2.setIfInBounds a.1 v)) (o,arr)).2.toList.take (o+vs.length)=arr.toList.take o++vs)
 | [],o,arr,_=>by simp
 | v::vs,o,arr,h=>by
  rw [List.foldl_cons];simp only [List.length_cons] at h;obtain ⟨a,b⟩:=MA vs (o+1) (arr.setIfInBounds o v) (by simp;omega);refine ⟨a.trans (by simp),?_⟩;rw [List.length_cons,show o+(vs.length+1)=o+1+vs.length by omega,b];have aQ:o<arr.toList.length:=by simp;omega
  rw [Array.toList_setIfInBounds,List.take_add_one,List.take_set_of_le (Nat.le_refl _),List.getElem?_set_self aQ];simp
theorem z5:zeroOf Tryz.prog 5=some (.int .u8 0):=by kernel_rfl
theorem aaU:bytesOf Tryz.prog 5=some 1:=by kernel_rfl
theorem ark{h0 h:ab}{sl:Value}{l m:List UInt8}{ty:Nat}(le:h0.aD h)(q:sW h0 h sl l)(af:l.length+m.length<=200000){K:Value->ab->Prop}
  (kk:∀kS h',h0.aD h'->sW h0 h' kS (l++m)->K kS h'):@au Tryz.prog _ (Builtin.append_ #[87,9] ty #[sl,aW m]) h ⟨K⟩:=by
 have aaV:cy Tryz.prog 5=some 1:=by kernel_rfl
 have grown:∀(kQ:List Value) (kI:Nat),kQ=bv l->l.length+m.length<=kI->∀b,h b=none->∀rest:List Value,rest.length=(kI- (l.length+m.length))*1->K (.slice (some ⟨b,0,none⟩) (l.length+m.length) kI) (h.put b ⟨.cells ⟨kQ++bv m++rest⟩ 5,true⟩):=by
  intro kQ kI aQ hc b hb rest al;subst aQ;refine kk _ _ (le.aU (hf hb)) (.inr ⟨b,kI,⟨bv l++bv m++rest⟩,by simp,?_,dd,?_,by simpa using hc,?_⟩)
  ·cases aa:h0 b with
   | none=>rfl
   | some x=>rw [le b x aa] at hb;cases hb
  ·simp [zN,al];omega
  ·rw [XO];show ((bv l++bv m)++rest).take (l++m).length=_;rw [List.take_left' (by simp [zN])]
 rcases q with ⟨rfl,rfl⟩|⟨b,cap,arr,rfl,iL,hb,aA,hc,aj⟩
 ·refine Uh (m:=m.length) Tryz.underlying87 Tryz.underlying9 aaV aaU z5 rfl (by decide) (by decide) rfl (fun Q=>XP Q) (fun hc=> ?_) (fun hc=>⟨by simpa using af,by decide,[],fun Q=>by show bf Tryz.prog (pure #[]) h Q=_;rw [bh],fun eT h1 b hb rest al=> ?_⟩)
  ·have:m=[]:=by cases m<;>simp at hc ⊢
   subst this;exact kk _ _ le (.inl ⟨rfl,rfl⟩)
  ·simpa using grown [] eT rfl h1 b hb rest al
 ·refine Uh (m:=m.length) Tryz.underlying87 Tryz.underlying9 aaV aaU z5 rfl (by decide) (by decide) rfl (fun Q=>XP Q) (fun gd=> ?_) (fun gd=>⟨by simpa using af,by decide,bv l,fun Q=> ?_,fun eT h1 b9 dW rest al=> ?_⟩)
  ·have st:=FP (h:=h) (c:=b) (q:=5) (vs:=bv m) (arr:=arr) (o:=l.length) (i:=0) (K:=fun h=>K (eO b 0 (l.length+m.length) cap) h) (by simp [bv,jG]) (by rw [zN];omega);rw [ps hb,Nat.add_zero] at st;obtain ⟨f1,f2⟩:=MA (bv m) l.length arr (by rw [zN];omega);have goal:=st.mpr ?_
   ·simp only [k5,Nat.mul_one,Nat.zero_add];exact goal.2
   ·refine kk _ _ (fq le iL rfl) (.inr ⟨b,cap,_,by simp,iL,dd,f1.trans aA,by simpa using gd,?_⟩);rw [XO,<- aj,List.length_append,<- zN m,f2]
  ·refine (yP (vs:=bv l) ?_ Q);rw [pj hb,ES _ _ (by omega)];simp [aj]
  ·exact grown (bv l) eT rfl h1 b9 dW rest al
section
variable{P:Program}{fn:Func}{ah:Type}{n:Nat}{gS:ah->ab->Value->Prop}{e:Env}{s:ah}{h:ab}
theorem ny{a b:Nat}(al:fn.results=#[.tmp a,.tmp b])(aA:a<n)(hb:b<n)(p:gS s h (.tuple #[e a,e b])):er P fn gS n e [] s h:=by
 simp only [er,kF,results,al,aV];simp [bh,aA,hb,Array.getD,aV];exact p
end
def aaW:eI:=⟨.cells #[] 0 (0,0),true⟩
def jU(h0 h:ab)(c:Nat)(l:List UInt8):Prop:=h0.aD h/\h0 c=none/\∃p sl,(p=.pointer none\/p=bL c 0)/\h c=some ⟨.cells #[p,sl] 89 (0,0),true⟩/\sW (h0.put c aaW) h sl l
theorem Ui{h:ab}{c b:Nat}{x y:eI}:(h.put c x) b=none↔(h.put c y) b=none:=by
 unfold ab.put;split<;>simp
theorem sW.mono{h0 yg h h':ab}{sl:Value}{l:List UInt8}(k:∀b,h0 b=none->yg b=none)(bX:∀b x,h0 b=none->h b=some x->h' b=some x)(q:sW h0 h sl l):sW yg h' sl l:=by
 rcases q with q|⟨b,cap,arr,e,a1,a2,a3⟩
 ·exact .inl q
 ·exact .inr ⟨b,cap,arr,e,k _ a1,bX _ _ a1 a2,a3⟩
theorem sW.slice{h0 h:ab}{sl:Value}{l:List UInt8}(q:sW h0 h sl l):∃a n c,sl=.slice a n c:=by
 rcases q with ⟨_,e⟩|⟨b,cap,arr,e,_⟩
 ·exact ⟨_,_,_,e⟩
 ·exact ⟨_,_,_,e⟩
theorem jU.le{h0 h h':ab}{c:Nat}{l:List UInt8}(q:jU h0 h c l)(le:h.aD h'):jU h0 h' c l:=
 let ⟨a,b,p,sl,c1,c2,c3⟩:=q;⟨a.aU le,b,p,sl,c1,le _ _ c2,c3.mono (fun _ q=>q) fun b x _ aa=>le b x aa⟩
theorem jU.bR{h0 h:ab}{c d:Nat}{x:eI}{l:List UInt8}(q:jU h0 h c l)(hd:h d=none):jU (h0.put d x) (h.put d x) c l:=by
 obtain ⟨a,b,p,sl,c1,c2,c3⟩:=q;have kt:d≠c:=fun e=>by subst e;rw [hd] at c2;cases c2
 refine ⟨fun b y hb=> ?_,by rw [cG (Ne.symm kt)];exact b,p,sl,c1,by rw [cG (Ne.symm kt)];exact c2,?_⟩
 ·by_cases e:b=d
  ·subst e;rw [dd] at hb ⊢;exact hb
  ·rw [cG e] at hb ⊢;exact a _ _ hb
 ·rcases c3 with q|⟨b,cap,arr,e,a1,a2,a3⟩
  ·exact .inl q
  ·have sQ:b≠d:=fun e=>by subst e;rw [hd] at a2;cases a2
   refine .inr ⟨b,cap,arr,e,?_,by rw [cG sQ];exact a2,a3⟩;by_cases ui:b=c
   ·subst ui;rw [dd] at a1;cases a1
   ·rw [cG ui] at a1 ⊢;rw [cG sQ];exact a1
section
variable{main:Bool}{ah:Type}{S:Sys ah}{s:ah}{h0 h:ab}
theorem call35:bP Tryz.prog 35=true:=by kernel_rfl
theorem JJ{c:Nat}{l m:List UInt8}(q:jU h0 h c l)(af:l.length+m.length<=200000):
  bI Tryz.prog main S 35 #[bL c 0,aW m] s h fun ai h' v=>ai=s/\jU h0 h' c (l++m):=by
 refine cc (args:=[bL c 0,aW m]) Tryz.func35 (by delta Tryz.f35;rfl) Tryz.ntmps35 (by simp) (by kernel_rfl) ?_;obtain ⟨a,b,p,sl,c1,c2,c3⟩:=q;simp only [ad,seval];refine c0 call70 (adK c1 c2) fun s2 h2 v ⟨an,az⟩=> ?_;subst an;have g2:=cq az;obtain ⟨x,n,dS,rfl⟩:=c3.slice;simp only [ad,seval,g2];have c4:sW (h0.put c aaW) h2 (.slice x n dS) l:=c3.mono (fun _ q=>q) fun d y hd ax=>by
  subst az;rw [cG (fun e=>by subst e;rw [dd] at hd;cases hd)];exact ax
 have c5:sW (h0.put c ⟨.cells #[bL c 0,.slice x n dS] 89 (0,0),true⟩) h2 (.slice x n dS) l:=c4.mono (fun _ q=>Ui.1 q) fun _ _ _ q=>q;have bM:(h0.put c ⟨.cells #[bL c 0,.slice x n dS] 89 (0,0),true⟩).aD h2:=fun d y hd=>by
  subst az;by_cases e:d=c
  ·subst e;rw [dd] at hd ⊢;exact hd
  ·rw [cG e] at hd ⊢;exact a _ _ hd
 refine ark bM c5 af fun kS h3 bK aB=> ?_;obtain ⟨x',n',axa,rfl⟩:=aB.slice;have g3:=bK _ _ dd;simp only [ad,seval,g3];intro h4 e4;simp only [ad,seval,ha];refine ny Tryz.results35 (by simp) (by simp) ⟨rfl,?_⟩;refine ⟨fun d y hd=> ?_,b,bL c 0,.slice x' n' axa,.inr rfl,by subst e4;rw [dd],?_⟩
 ·have kt:d≠c:=fun e=>by subst e;rw [b] at hd;cases hd
  subst e4;rw [cG kt];exact bK _ _ (by rw [cG kt];exact hd)
 ·refine aB.mono (fun _ q=>Ui.1 q) fun d y hd ax=> ?_;subst e4;rw [cG (fun e=>by subst e;rw [dd] at hd;cases hd)];exact ax
end
section
variable{P:Program}{h:ab}
theorem ao0{fits:TypeId->Bool}{d e count n:Nat}(he:P.cellsOf e=1)(ao:n<=count)(aP:fits e=true):rowAt P fits (d+1) e count 0 n=true:=by
 rw [rowAt];simp [he,ao,aP]
theorem arl{d e count n:Nat}(hd:P.depth=d+1)(he:P.cellsOf e=1)(ao:n<=count)(hs:sameLayout P P.depth e e=true):liesAt P P.depth e count 0 e n=true:=by
 have:liesAt P (d+1) e count 0 e n=true:=by
  rw [liesAt,hd,ao0 he ao (by rw [<- hd];exact hs),Bool.true_or]
 rw [<- hd] at this;exact this
theorem arn{d c e n:Nat}{arr:Array Value}{f:Nat×Nat}{w:Bool}(hd:P.depth=d+1)(he:P.cellsOf e=1)(hs:sameLayout P P.depth e e=true)(g:h c=some ⟨.cells arr e f,w⟩)(ao:n<=arr.size)(Q:Bool->ab->Prop):bf P (variablesAt ⟨c,0,none⟩ e n) h Q=Q true h:=by
 simp only [variablesAt,aV,mJ];rw [Br g];simp only [bh,he,Nat.div_one,arl hd he ao hs]
theorem Yl{c:Nat}{arr:Array Value}{f:Nat×Nat}{q:Nat}{w:Bool}(g:h c=some ⟨.cells arr q f,w⟩):∀(l:List UInt8) (o:Nat) (acc:List UInt8) (Q:ByteArray->ab->Prop),lM o l.length arr=some (bv l)->bf P (loadBytes ⟨c,o,none⟩ ⟨⟨acc⟩⟩ l.length) h Q=Q ⟨⟨acc++l⟩⟩ h
 | [],o,acc,Q,_=>by simp [loadBytes,bh]
 | x::l,o,acc,Q,aj=>by
  rw [List.length_cons,J2] at aj;cases aA:arr[o]? with
  | none=>rw [aA] at aj;cases aj
  | some v=>
   rw [aA] at aj;cases al:lM (o+1) l.length arr with
   | none=>rw [al] at aj;cases aj
   | some vs=>
    rw [al] at aj;have gh:v::vs=.int .u8 x.toNat::bv l:=Option.some.inj aj;obtain ⟨rfl,rfl⟩:=List.cons.inj gh;have aN:=Yl g l (o+1) (acc++[x]) Q al;rw [List.length_cons,loadBytes];simp only [aV];have hc:h.cell? ⟨c,o,none⟩=some (.int .u8 x.toNat):=by simp [ab.cell?,g,aA]
    have e1:(Addr.add ⟨c,o,none⟩ 1)=⟨c,o+1,none⟩:=rfl;rw [Ey,hc];show bf P (loadBytes (Addr.add ⟨c,o,none⟩ 1) ((⟨⟨acc⟩⟩:ByteArray).push ((x.toNat:Int).toNat.toUInt8)) l.length) h Q=_;rw [e1,show ((x.toNat:Int).toNat.toUInt8)=x by simp,Wz,aN];simp
end
section
variable{h:ab}
theorem ao1:Tryz.prog.underlying 148=some (.pointer 5):=by kernel_rfl
theorem atK:Tryz.prog.cellsOf 5=1:=by kernel_rfl
theorem atL:sameLayout Tryz.prog Tryz.prog.depth 5 5=true:=by kernel_rfl
theorem atM:∃d,Tryz.prog.depth=d+1:=⟨2*(Tryz.prog.types.size+Made.depth)+1,rfl⟩
theorem amC{c:Nat}{arr:Array Value}{l:List UInt8}(g:h c=some ⟨.cells arr 5 (0,0),true⟩)(aj:lM 0 l.length arr=some (bv l))(ao:l.length<=arr.size)(af:0<l.length)(AY:l.length<=1000000){ty:TypeId}{K:Value->ab->Prop}(k:K (aW l) (h.freeze ⟨c,0,none⟩ l.length)):
  @au Tryz.prog _ (Builtin.unsafeString_ #[148,3] ty #[bL c 0,.int .i64 l.length]) h ⟨K⟩:=by
 have e0:¬((l.length:Int)<0):=by omega
 have e1:¬((l.length:Int)>IntKind.i64.max):=by
  rw [show IntKind.i64.max=9223372036854775807 by kernel_rfl];omega
 have e2:¬((l.length:Int)=0):=by omega
 obtain ⟨d,hd⟩:=atM;have v0:=fun Q=>arn (P:=Tryz.prog) (n:=l.length) hd atK atL g ao Q;have b0:=fun Q=>Yl (P:=Tryz.prog) g l 0 [] Q aj;have axb:∀Q:ByteArray->ab->Prop,bf Tryz.prog (loadBytes ⟨c,0,none⟩ ByteArray.empty l.length) h Q=Q ⟨⟨l⟩⟩ h:=fun Q=>(b0 Q).trans (by rw [List.nil_append]);have f0:∀Q:Unit->ab->Prop,bf Tryz.prog (freeze ⟨c,0,none⟩ l.length) h Q=Q () (h.freeze ⟨c,0,none⟩ l.length):=fun Q=>by
  simp [freeze,bf,ab.owns,ab.shape?,g]
 unfold au;rw [show Builtin.unsafeString_ #[148,3] ty #[bL c 0,.int .i64 l.length]=bind (asInt (.int .i64 l.length)) _ from rfl];simp only [asInt,asIntOf,aV,bh,List.getElem?_toArray,List.getElem?_cons_zero,if_neg e0,if_neg e1,if_neg e2,elemOf,df,ao1,Int.toNat_natCast,v0,axb,f0,if_true];exact k
theorem amD{c n dS:Nat}{dN:Array Nat}{ty:TypeId}(hc:dS≠0){K:Value->ab->Prop}(k:K (bL c 0) h):@au Tryz.prog _ (Builtin.unsafeSliceData_ dN ty #[eO c 0 n dS]) h ⟨K⟩:=by
 unfold au;rw [show Builtin.unsafeSliceData_ dN ty #[eO c 0 n dS]=if dS≠0 then pure (bL c 0) else _ from rfl,if_pos hc,bh];exact k
end
section
variable{main:Bool}{ah:Type}{S:Sys ah}{s:ah}{h0 h:ab}
theorem call37:bP Tryz.prog 37=true:=by kernel_rfl
theorem SI{h:ab}{a:Addr}{n b:Nat}(hb:b≠a.block):(h.freeze a n) b=h b:=by
 unfold ab.freeze;by_cases ao:n=0
 ·simp [ao]
 ·rw [if_neg ao];cases aa:h a.block with
  | none=>rfl
  | some x=>
   obtain ⟨o,p⟩:=x;cases o<;>first|rfl|exact cG hb
theorem ajD{c:Nat}{l:List UInt8}(q:jU h0 h c l)(af:0<l.length)(AY:l.length<=1000000):
  bI Tryz.prog main S 37 #[bL c 0] s h fun ai h' v=>ai=s/\h0.aD h'/\v=aW l:=by
 refine cc (args:=[bL c 0]) Tryz.func37 (by delta Tryz.f37;rfl) Tryz.ntmps37 (by simp) (by kernel_rfl) ?_;obtain ⟨a,b,p,sl,c1,c2,c3⟩:=q;rcases c3 with ⟨rfl,_⟩|⟨d,cap,arr,rfl,d0,d1,d2,d3,d4⟩
 ·simp at af
 have kt:d≠c:=fun e=>by subst e;rw [dd] at d0;cases d0
 have sH:h0 d=none:=by rw [cG kt] at d0;exact d0
 have cw:lM 0 l.length arr=some (bv l):=by rw [ES _ _ (by omega)];simpa using d4
 simp only [ad,seval,kJ];intro t;refine J1 (l:=_) (by kernel_rfl) (by kernel_rfl) hR 10 (fun Jy i v hh=>match i with
   | 0=>v=bL c 0|1=>v=bL c 0|2=>v=bL c 1|3=>v=eO d 0 l.length cap|4=>v=bL d 0|5=>v=bL c 0|6=>v=bL c 0|7=>v=bL c 1|8=>v=eO d 0 l.length cap
   | 9=>v=.int .i64 l.length|10=>v=aW l|11=>v=aW l|_=>True) (fun _ _ _ _ _ _ q=>q) (fun _ ai=>ai=s)
  (fun h1 h2=>h2=h1.freeze ⟨d,0,none⟩ l.length) (fun Jy hh=>h0.aD hh/\hh c=some ⟨.cells #[p,eO d 0 l.length cap] 89 (0,0),true⟩/\(Jy=false->hh d=some ⟨.cells arr 5 (0,0),true⟩))
  (fun Jy h1 h2 le ⟨an,az,aB⟩=>⟨an.aU le,le _ _ az,fun e=>le _ _ (aB e)⟩)
  (fun h1 h2 ⟨an,az,aB⟩ e=>by
   subst e;refine ⟨fun b x hb=> ?_,?_,fun e=>(by cases e)⟩
   ·rw [SI (fun e=>by rw [e] at hb;rw [sH] at hb;cases hb)];exact an b x hb
   ·rw [SI (Ne.symm kt)];exact az)
  ⟨a,c2,fun _=>d1⟩ (fun _ _ _ _ _ q=>q) rfl ?_ ?_ t
 ·intro i o hi e' ai h1 Jy ⟨fV,p2,p3⟩ un dX qC pre;have dX:ai=s:=dX;subst dX;have u0:e' 0=bL c 0:=by rw [un 0 rfl];simp [ak]
  match i,hi with
  | 0,hi=>
   cases hi;simp only [ad,seval,u0]
   first|exact ⟨rfl,_,rfl,rfl,fun _ _ e=>e,rfl⟩|exact ⟨_,rfl,rfl,fun _ _ e=>e,rfl⟩|exact ⟨_,rfl,fun _ _ e=>e,rfl⟩
  | 1,hi=>
   cases hi;have fA:e' 3=bL c 0:=pre 0 3 rfl rfl;simp only [ad,seval,fA]
   first|exact ⟨rfl,_,rfl,rfl,fun _ _ e=>e,rfl⟩|exact ⟨_,rfl,rfl,fun _ _ e=>e,rfl⟩|exact ⟨_,rfl,fun _ _ e=>e,rfl⟩
  | 2,hi=>
   cases hi;have fA:e' 4=bL c 0:=pre 1 4 rfl rfl;simp only [ad,seval,fA]
   first|exact ⟨rfl,_,rfl,rfl,fun _ _ e=>e,rfl⟩|exact ⟨_,rfl,rfl,fun _ _ e=>e,rfl⟩|exact ⟨_,rfl,fun _ _ e=>e,rfl⟩
  | 3,hi=>
   cases hi;have fA:e' 5=bL c 1:=pre 2 5 rfl rfl;simp only [ad,seval,fA,p2]
   first|exact ⟨rfl,_,rfl,rfl,fun _ _ e=>e,rfl⟩|exact ⟨_,rfl,rfl,fun _ _ e=>e,rfl⟩|exact ⟨_,rfl,fun _ _ e=>e,rfl⟩
  | 4,hi=>
   cases hi;have fA:e' 6=eO d 0 l.length cap:=pre 3 6 rfl rfl;simp only [ad,seval,fA];refine amD (by omega) ?_
   first|exact ⟨rfl,_,rfl,rfl,fun _ _ e=>e,rfl⟩|exact ⟨_,rfl,rfl,fun _ _ e=>e,rfl⟩|exact ⟨_,rfl,fun _ _ e=>e,rfl⟩
  | 5,hi=>
   cases hi;simp only [ad,seval,u0]
   first|exact ⟨rfl,_,rfl,rfl,fun _ _ e=>e,rfl⟩|exact ⟨_,rfl,rfl,fun _ _ e=>e,rfl⟩|exact ⟨_,rfl,fun _ _ e=>e,rfl⟩
  | 6,hi=>
   cases hi;have fA:e' 8=bL c 0:=pre 5 8 rfl rfl;simp only [ad,seval,fA]
   first|exact ⟨rfl,_,rfl,rfl,fun _ _ e=>e,rfl⟩|exact ⟨_,rfl,rfl,fun _ _ e=>e,rfl⟩|exact ⟨_,rfl,fun _ _ e=>e,rfl⟩
  | 7,hi=>
   cases hi;have fA:e' 9=bL c 0:=pre 6 9 rfl rfl;simp only [ad,seval,fA]
   first|exact ⟨rfl,_,rfl,rfl,fun _ _ e=>e,rfl⟩|exact ⟨_,rfl,rfl,fun _ _ e=>e,rfl⟩|exact ⟨_,rfl,fun _ _ e=>e,rfl⟩
  | 8,hi=>
   cases hi;have fA:e' 10=bL c 1:=pre 7 10 rfl rfl;simp only [ad,seval,fA,p2]
   first|exact ⟨rfl,_,rfl,rfl,fun _ _ e=>e,rfl⟩|exact ⟨_,rfl,rfl,fun _ _ e=>e,rfl⟩|exact ⟨_,rfl,fun _ _ e=>e,rfl⟩
  | 9,hi=>
   cases hi;have fA:e' 11=eO d 0 l.length cap:=pre 8 11 rfl rfl;simp only [ad,seval,fA]
   first|exact ⟨rfl,_,rfl,rfl,fun _ _ e=>e,rfl⟩|exact ⟨_,rfl,rfl,fun _ _ e=>e,rfl⟩|exact ⟨_,rfl,fun _ _ e=>e,rfl⟩
  | 10,hi=>
   cases hi;have fA:e' 7=bL d 0:=pre 4 7 rfl rfl;have an:e' 12=.int .i64 l.length:=pre 9 12 rfl rfl;have hc:=qC rfl;simp only [ad,seval,fA,an];refine amC (p3 hc) cw (by omega) af AY ?_
   first|exact ⟨rfl,_,rfl,rfl,rfl,rfl⟩|exact ⟨_,rfl,rfl,rfl,rfl⟩|exact ⟨_,rfl,rfl,rfl⟩
  | 11,hi=>
   cases hi;have fA:e' 13=aW l:=pre 10 13 rfl rfl;simp only [ad,seval,fA]
   first|exact ⟨rfl,_,rfl,rfl,fun _ _ e=>e,rfl⟩|exact ⟨_,rfl,rfl,fun _ _ e=>e,rfl⟩|exact ⟨_,rfl,fun _ _ e=>e,rfl⟩
  | i+12,hi=>simp at hi
 ·intro e' ai h1 ⟨fV,p2,p3⟩ un tc z;have z:ai=s:=z;subst z;simp only [ad,seval];exact bT Tryz.results37 (by simp) ⟨rfl,fV,tc 11 2 rfl⟩
end
end
end Go.Nk
