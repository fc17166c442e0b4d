/- Part Pax of the proof of ButtBack: lemmas. -/
import Derived.Test.YthgephlghkjiaaaGreatDoorPaw
set_option maxRecDepth 100000
set_option maxHeartbeats 4000000
set_option linter.all false
namespace Go.Nk
noncomputable section
open Go Go.Conc Go.Proofs
theorem amH(w:UInt8):Cy.contains w=kM w:=by
 have:∀n:Fin 256,Cy.contains (UInt8.ofNat n.1)=kM (UInt8.ofNat n.1):=by decide +kernel
 have q:=this ⟨w.toNat,w.toNat_lt⟩;simpa using q
structure HS(l:List UInt8):Prop where
 yj:∀x∈l,kM x=true
 len:1<=l.length/\l.length<=9
 zero:l.head? =some 48->l=[48]
section
variable{main:Bool}{ah:Type}{S:Sys ah}{s:ah}{h:ab}
theorem Fb{l:List UInt8}(q:HS l):bI Tryz.prog main S 116 #[aW l] s h fun ai h' v=>ai=s/\h.aD h'/\v=.tuple #[.int .i64 (ja l),.nilIface]:=by
 refine cc (args:=[aW l]) Tryz.func116 (by delta Tryz.f116;rfl) Tryz.ntmps116 (by simp) (by kernel_rfl) ?_;have af:=q.len;have uK:l[0]? =some l[0]:=by simp
 have d0:=wQ.1 (q.yj l[0] (List.getElem_mem _));have z0:l[0]=48->l=[48]:=fun e=>q.zero (by rw [List.head?_eq_getElem?,List.getElem?_eq_getElem (by omega),e]);have aK:tz l [45]=false:=by
  have:l.take 1≠[45]:=fun e=>by
   have e2:l[0]=45:=by
    have:=congrArg (·[0]?) e;rw [List.getElem?_take_of_lt (by omega),List.getElem?_eq_getElem (by omega)] at this;exact Option.some.inj this
   rw [e2] at d0;simp at d0
  simp [tz,this]
 generalize l[0]=k2 at uK d0 z0;simp only [ad,seval];refine eQ call162 (aru l [45] _ _) ?_;simp only [ad,seval,aK,ha];refine eQ call53 (pk _ _ _ _ _) ?_;have pX:(decide ((1:Int)<=l.length)&&decide ((l.length:Int)<=9))=true:=by simp;omega
 simp only [ad,seval,pX];refine c0 call163 (XK (cs:=Cy) atF (by decide) (by omega)) fun jl h5 z ⟨r1,r2,m,r3,gI⟩=> ?_;subst r1;subst r3;have hm:(m==[])=true:=by
  rw [gI,List.all_eq_true];intro w hw;rw [amH];exact q.yj w hw
 have gB:m=[]:=by simpa using hm
 subst gB;simp only [ad,seval,Xh,show (([]:List UInt8)==[])=true from rfl,kj,uK,nV];by_cases aH:k2=48
 ·have e1:((k2.toNat:Int)==48)=true:=by rw [aH];rfl
  have e2:(l==[48])=true:=by rw [z0 aH];rfl
  simp only [ad,seval,e1,e2,Xh];refine c0 call164 (WH q.yj af.1 af.2) fun qU h6 v ⟨an,az,aB⟩=> ?_;subst an;subst aB;simp only [ad,seval,fG];exact ny Tryz.results116 (by simp) (by simp) ⟨rfl,r2.aU az,by simp [ak]⟩
 ·have e1:((k2.toNat:Int)==48)=false:=by
   rw [beq_eq_false_iff_ne];intro e;exact aH (UInt8.toNat_inj.1 (by simp;omega))
  simp only [ad,seval,e1];refine c0 call164 (WH q.yj af.1 af.2) fun qU h6 v ⟨an,az,aB⟩=> ?_;subst an;subst aB;simp only [ad,seval,fG];exact ny Tryz.results116 (by simp) (by simp) ⟨rfl,r2.aU az,by simp [ak]⟩
end
theorem qf{k:Nat}(hk:k<10):(iT k).toNat=48+k:=by unfold iT;simp;omega
theorem sf{k:Nat}(hk:k<10):kM (iT k)=true:=by rw [wQ,qf hk];omega
theorem Hk{k:Nat}(hk:k<10)(h:iT k=48):k=0:=by
 have:=qf hk;rw [h] at this;simp at this;omega
theorem amI{n:Nat}(ao:n<10000):HS (dec n)/\ja (dec n)=n:=by
 have fx:n%10<10:=by omega
 have fW:n/10%10<10:=by omega
 have jj:n/100%10<10:=by omega
 unfold dec;by_cases h1:n<10
 ·rw [if_pos h1];refine ⟨⟨by simp [sf h1],by simp,fun e=> ?_⟩,by simp [ja,qf h1]⟩;have:=Hk h1 (by simpa using e);rw [this];rfl
 rw [if_neg h1];by_cases h2:n<100
 ·have a1:n/10<10:=by omega
  rw [if_pos h2];refine ⟨⟨by simp [sf a1,sf fx],by simp,fun e=> ?_⟩,by simp [ja,qf a1,qf fx];omega⟩;have:=Hk a1 (by simpa using e);omega
 rw [if_neg h2];by_cases h3:n<1000
 ·have a1:n/100<10:=by omega
  rw [if_pos h3];refine ⟨⟨by simp [sf a1,sf fx,sf fW],by simp,fun e=> ?_⟩,by simp [ja,qf a1,qf fx,qf fW];omega⟩;have:=Hk a1 (by simpa using e);omega
 rw [if_neg h3];have a1:n/1000<10:=by omega
 refine ⟨⟨by simp [sf a1,sf fx,sf fW,sf jj],by simp,fun e=> ?_⟩,by simp [ja,qf a1,qf fx,qf fW,qf jj];omega⟩;have:=Hk a1 (by simpa using e);omega
theorem zh{i:Int}(hi:hx i):HS (dn i)/\((ja (dn i):Nat):Int)=i:=by
 obtain ⟨a,b⟩:=hi;obtain ⟨an,az⟩:=amI (n:=i.toNat) (by omega);refine ⟨an,?_⟩;show ((ja (dec i.toNat):Nat):Int)=i;rw [az];omega
def oQ(h:ab):Prop:=∃m q f w,h 5=some ⟨.cells #[.int .i64 m] q f,w⟩
theorem oQ.le{h h':ab}(l:h.aD h')(t:oQ h):oQ h':=let ⟨m,q,f,w,e⟩:=t;⟨m,q,f,w,l _ _ e⟩
theorem arB(a b:List UInt8):((⟨⟨a⟩⟩:ByteArray)==⟨⟨b⟩⟩)=(a==b):=by
 show ((⟨a⟩:Array UInt8)==⟨b⟩)=(a==b);simp
inductive pg:List UInt8->Int->Prop
 | no {l}:(∀x∈l,(x==46)=false)->1<=l.length->l.length<=60->pg l (-1)
 | yes {a b}:(∀x∈a,(x==46)=false)->1<=a.length->a.length+b.length<=60->1<=b.length->pg (a++46::46::b) a.length
theorem pg.len{l:List UInt8}{n:Int}(q:pg l n):1<=l.length/\l.length<=62:=by
 cases q with
 | no _ h1 h2=>exact ⟨h1,by omega⟩
 | yes _ h1 h2 h3=>simp;omega
theorem pg.ne{l:List UInt8}{n:Int}(q:pg l n):([46,46]==l)=false:=by
 rw [beq_eq_false_iff_ne];intro e;cases q with
 | no h0 _ _=>have:=h0 46 (by rw [<- e];simp);simp at this
 | @yes a b h0 h1 h2 h3=>
  cases a with
  | nil=>simp at h1
  | cons x a=>
   have e2:=(List.cons.inj e).1;have:=h0 x (by simp);rw [<- e2] at this;simp at this
theorem pg.find{l:List UInt8}{n:Int}(q:pg l n):(match (List.range (l.length+1- 2)).find? fun i=>(l.drop i).take 2==[46,46] with|some i=>(i:Int)|none=> -1)=n:=by
 cases q with
 | no h0 h1 h2=>
  have:((List.range (l.length+1- 2)).find? fun i=>(l.drop i).take 2==[46,46])=none:=by
   rw [List.find?_eq_none];intro i _ e;have e':(l.drop i).take 2=[46,46]:=by simpa using e
   have:(46:UInt8)∈l:=List.mem_of_mem_drop (List.mem_of_mem_take (by rw [e'];simp));have:=h0 _ this;simp at this
  rw [this]
 | @yes a b h0 h1 h2 h3=>
  have:((List.range ((a++46::46::b).length+1- 2)).find? fun i=>((a++46::46::b).drop i).take 2==[46,46])=some a.length:=by
   rw [List.find?_range_eq_some];refine ⟨by rw [List.drop_left' rfl];rfl,by simp,fun j ae=> ?_⟩;have axi:j<(a++46::46::b).length:=by simp;omega
   rw [List.drop_eq_getElem_cons axi,List.getElem_append_left ae];have:=h0 a[j] (List.getElem_mem ae);simp only [List.take_succ_cons,List.cons_beq_cons,this,Bool.false_and,Bool.not_false]
  rw [this]
section
variable{h:ab}
theorem arC:(Tryz.prog.globals.findIdx? (·.name== "internal/bytealg.MaxLen"))=some 5:=by kernel_rfl
theorem agQ{l:List UInt8}{n m:Int}(q:pg l n){ty:Nat}{f:Nat×Nat}{w:Bool}(g:h 5=some ⟨.cells #[.int .i64 m] ty f,w⟩)(hm:2<=m){K:Value->ab->Prop}(k:K (.int .i64 n) h):@au Tryz.prog _ (Extern.BytealgIndex.index #[aW l,aW [46,46]]) h ⟨K⟩:=by
 have dK:h.cell? ⟨5,0,none⟩=some (.int .i64 m):=by simp [ab.cell?,g]
 unfold au;rw [show Extern.BytealgIndex.index #[aW l,aW [46,46]]=bind (pure (⟨⟨l⟩⟩:ByteArray)) (fun a=>bind (pure (⟨⟨[46,46]⟩⟩:ByteArray)) _) from rfl];simp only [aV,bh,Extern.BytealgIndex.maxLen,globalAddr,mJ,arC];rw [Ey,dK];simp only [asInt,asIntOf,aV,bh];have af:=q.len;have e1:(decide ((⟨⟨[46,46]⟩⟩:ByteArray).size<2)||decide (((⟨⟨[46,46]⟩⟩:ByteArray).size:Int)>m))=false:=by
  have:(⟨⟨[46,46]⟩⟩:ByteArray).size=2:=rfl;rw [this];simp;omega
 have e2:¬((⟨⟨l⟩⟩:ByteArray).size>=2^32- 15):=by
  have:(⟨⟨l⟩⟩:ByteArray).size=l.length:=rfl;rw [this];omega
 rw [if_neg (by rw [e1];exact Bool.false_ne_true),if_neg e2];have e3:(fun i:Nat=>(⟨⟨l⟩⟩:ByteArray).extract i (i+(⟨⟨[46,46]⟩⟩:ByteArray).size)==(⟨⟨[46,46]⟩⟩:ByteArray))=fun i:Nat=>(l.drop i).take 2==[46,46]:=by
  funext i;have:(⟨⟨[46,46]⟩⟩:ByteArray).size=2:=rfl;rw [this,tb,arB,Nat.add_sub_cancel_left]
 rw [e3,show (⟨⟨l⟩⟩:ByteArray).size+1- (⟨⟨[46,46]⟩⟩:ByteArray).size=l.length+1- 2 from rfl];have Jz:=q.find;cases aP:(List.range (l.length+1- 2)).find? fun i=>(l.drop i).take 2==[46,46] with
 | none=>
  rw [aP] at Jz;simp only [bh];rw [<- Jz] at k;exact k
 | some i=>
  rw [aP] at Jz;simp only [bh];rw [<- Jz] at k;exact k
end
section
variable{main:Bool}{ah:Type}{S:Sys ah}{s:ah}{h:ab}
theorem ao8{l:List UInt8}{n:Int}(q:pg l n)(aj:oQ h):bI Tryz.prog main S 208 #[aW l,aW [46,46]] s h fun ai h' v=>ai=s/\h'=h/\v=.int .i64 n:=by
 refine cc (args:=[aW l,aW [46,46]]) Tryz.func208 (by delta Tryz.f208;rfl) Tryz.ntmps208 (by simp) (by kernel_rfl) ?_;have af:=q.len;obtain ⟨m,ty,f,w,g⟩:=aj;simp only [ad,seval,ha,show (2==0)=false from rfl,show (2==1)=false from rfl,ki,q.ne];by_cases h2:l.length<=2
 ·have ao:n= -1:=by
   cases q with
   | no=>rfl
   | yes _ h1 _ h3=>simp at h2;omega
  subst ao;simp only [ad,seval,ha,decide_eq_true (show (2:Int)>=l.length by omega)];exact bT Tryz.results208 (by simp) ⟨rfl,rfl,by simp [ak]⟩
 have atS:[(46:UInt8),46][0]? =some 46:=rfl;have arD:[(46:UInt8),46][1]? =some 46:=rfl;simp only [ad,seval,ha,decide_eq_false (show ¬(2:Int)>=l.length by omega),g];by_cases hm:2<=m
 ·simp only [ad,seval,decide_eq_true (show (2)<=m by omega),ha,decide_eq_true (show (l.length:Int)<=64 by omega)];refine eX.native (K:=⟨_⟩) Tryz.func219 (by kernel_rfl) (by kernel_rfl) (by kernel_rfl) (x:=Extern.BytealgIndex.index) (by kernel_rfl) ?_;refine agQ q g hm ?_;simp only [ad,seval];exact bT Tryz.results208 (by simp) ⟨rfl,rfl,by simp [ak]⟩
 have w1:IntKind.i64.wrap ((l.length:Int)- 2)=((l.length- 2:Nat):Int):=by rw [dw (by omega) (by omega)];omega
 have w2:IntKind.i64.wrap (((l.length- 2:Nat):Int)+1)=((l.length- 1:Nat):Int):=by rw [dw (by omega) (by omega)];omega
 simp only [ad,seval,decide_eq_false (show ¬(2)<=m by omega),ha,kj,atS,arD,nV,w1,w2];refine eG (I:=fun k e d cx aa=>e 0=aW l/\e 1=aW [46,46]/\e 5=.int .i64 2/\e 6=.int .u8 (46:UInt8).toNat/\e 7=.int .u8 (46:UInt8).toNat/\e 8=.int .i64 0/\e 9=.int .i64 (l.length- 1:Nat)/\d=[]/\cx=s/\aa=h) (fun k e d cx aa bU=> ?_) (m:=0) ⟨by simp [ak],by simp [ak],by simp [ak],by simp [ak],by simp [ak],by simp [ak],by simp [ak],rfl,rfl,rfl⟩;obtain ⟨e0,e1,e5,e6,e7,cH,de,rfl,rfl,rfl⟩:=bU;have sU:e 0=.string ⟨⟨l⟩⟩:=e0;have gm:e 1=.string ⟨⟨[46,46]⟩⟩:=e1;have uK:l[0]? =some l[0]:=by simp
 have b7:((l[0].toNat:Int) != 46)=true:=by
  have:(l[0]==46)=false:=by
   cases q with
   | no h0 _ _=>exact h0 _ (List.getElem_mem _)
   | @yes a b h0 h1 h2 h3=>rw [List.getElem_append_left (by omega)];exact h0 _ (List.getElem_mem _)
  rw [bne_iff_ne];intro e;rw [beq_eq_false_iff_ne] at this;exact this (UInt8.toNat_inj.1 (by rw [show (46:UInt8).toNat=46 from rfl];omega))
 generalize l[0]=k2 at uK b7;have l7:∀{h:ab} [K:KK Value],au Tryz.prog (Instr.sliceAt 9 (.string ⟨⟨l⟩⟩) (some (.int .i64 1)) (some (.int .i64 (l.length- 1:Nat))) none) h=K.f (aW ((l.drop 1).take (l.length- 1- 1))) h:=fun {h K}=>Q2 (a:=1) (by omega) (by omega);simp only [ad,seval,sU,gm,e5,e6,e7,cH,de,decide_eq_true (show (0:Int)<(l.length- 1:Nat) by omega),kj,uK,nV,b7,show IntKind.i64.wrap 1=1 from rfl,l7];refine eQ call159 (OV _ 46 _ _) ?_;cases q with
 | no h0 h1 h2=>
  have aP:mn 46 ((l.drop 1).take (l.length- 1- 1))= -1:=by
   have:mB 46 ((l.drop 1).take (l.length- 1- 1))=none:=Fa.2 fun x aa=>h0 x (List.mem_of_mem_drop (List.mem_of_mem_take aa));rw [mn,this]
  simp only [ad,seval,aP,show decide ((-1:Int)<0)=true from rfl];exact bT Tryz.results208 (by simp) ⟨rfl,rfl,by simp [ak]⟩
 | @yes a b h0 h1 h2 h3=>
  cases a with
  | nil=>simp at h1
  | cons x a=>
  have hlen:(x::a++46::46::b).length=a.length+b.length+3:=by simp;omega
  have aP:mn 46 (((x::a++46::46::b).drop 1).take ((x::a++46::46::b).length- 1- 1))=a.length:=by
   have e:((x::a++46::46::b).drop 1).take ((x::a++46::46::b).length- 1- 1)=a++46::(46::b).take b.length:=by
    rw [hlen];show (a++46::46::b).take (a.length+b.length+3- 1- 1)=_;rw [show a.length+b.length+3- 1- 1=a.length+(b.length+1) by omega,List.take_length_add_append];rfl
   rw [mn,e,Vp fun y ax=>h0 y (by simp [ax])]
  have v1:IntKind.i64.wrap ((a.length:Int)+1)=((a.length+1:Nat):Int):=by rw [dw (by omega) (by omega)];omega
  have v2:IntKind.i64.wrap (0+((a.length+1:Nat):Int))=((a.length+1:Nat):Int):=by rw [dw (by omega) (by omega)];omega
  have v3:IntKind.i64.wrap (((a.length+1:Nat):Int)+1)=((a.length+2:Nat):Int):=by rw [dw (by omega) (by omega)];omega
  have v4:IntKind.i64.wrap (((a.length+1:Nat):Int)+2)=((a.length+3:Nat):Int):=by rw [dw (by omega) (by omega)];omega
  have ax:(x::a++46::46::b)[a.length+2]? =some 46:=by
   rw [List.getElem?_append_right (by simp)];simp
  have tg:∀{h:ab} [K:KK Value],au Tryz.prog (Instr.sliceAt 9 (.string ⟨⟨x::a++46::46::b⟩⟩) (some (.int .i64 (a.length+1:Nat))) (some (.int .i64 (a.length+3:Nat))) none) h=K.f (aW [46,46]) h:=fun {h K}=>by
   rw [Q2 (by omega) (by omega)];have:((x::a++46::46::b).drop (a.length+1)).take (a.length+3- (a.length+1))=[46,46]:=by
    rw [show a.length+1=(x::a).length by simp,List.drop_left' rfl,show a.length+3- (x::a).length=2 by simp];rfl
   rw [this]
  simp only [ad,seval,aP,decide_eq_false (show ¬((a.length:Nat):Int)<0 by omega),v1,v2,v3,v4,cH,sU,gm,e5,e6,e7,kj,ax,nV,tg,ki,show (([46,46]:List UInt8)==[46,46])=true from rfl];refine ⟨by omega,?_⟩;exact bT Tryz.results208 (by simp) ⟨rfl,rfl,by simp [ak]⟩
end
section
variable{P:Program}{fn:Func}{ah:Type}{n:Nat}{gS:ah->ab->Value->Prop}{e:Env}{s:ah}{h:ab}
theorem FR{a b c:Nat}(al:fn.results=#[.tmp a,.tmp b,.tmp c])(aA:a<n)(hb:b<n)(hc:c<n)(p:gS s h (.tuple #[e a,e b,e c])):er P fn gS n e [] s h:=by
 simp only [er,kF,results,al,aV];simp [bh,aA,hb,hc,Array.getD,aV];exact p
theorem Aq{t c:Nat}{arr:Array Value}{q:Nat}{f:Nat×Nat}{w:Bool}{vs:List Value}(hk:Ap P t=true)(g:h c=some ⟨.cells arr q f,w⟩)(aj:lM 0 (uE P t) arr=some vs)(Q:Value->ab->Prop):bf P (loadVar t ⟨c,0,none⟩) h Q=Q (.agg ⟨vs⟩) h:=by
 unfold Ap at hk;split at hk
 ·rename_i k hs;have e:uE P t=k:=by simp [uE,hs]
  rw [e] at aj;rw [wN,hs];simp only [tA];rw [pj g,aj]
 ·cases hk
theorem Zi{t c:Nat}{arr:Array Value}{q:Nat}{f:Nat×Nat}{w:Bool}{v:Value}(hk:AW P t=true)(g:h c=some ⟨.cells arr q f,w⟩)(aj:arr[0]? =some v)(Q:Value->ab->Prop):bf P (loadVar t ⟨c,0,none⟩) h Q=Q v h:=by
 unfold AW at hk;split at hk
 ·rename_i hs;have dK:h.cell? ⟨c,0,none⟩=some v:=by simp [ab.cell?,g,aj]
  rw [wN,hs];simp only [tA,dK]
 ·cases hk
theorem XR{a b t c:Nat}{v:Value}(al:fn.results=#[.cell a t,.tmp b])(aA:a<n)(hb:b<n)(lx:e a=bL c 0)(af:∀Q:Value->ab->Prop,bf P (loadVar t ⟨c,0,none⟩) h Q=Q v h)(p:gS s h (.tuple #[v,e b])):er P fn gS n e [] s h:=by
 simp only [er,kF,results,al];simp [aV,bh,aA,hb,lx,asAddr,map_eq_pure_bind,af,-map_pure,-bind_pure_comp];exact p
end
section
variable{main:Bool}{ah:Type}{S:Sys ah}{s:ah}{h:ab}
theorem call195:bP Tryz.prog 195=true:=by kernel_rfl
theorem call165:bP Tryz.prog 165=true:=by kernel_rfl
theorem call118:bP Tryz.prog 118=true:=by kernel_rfl
def tS(l:List UInt8)(n:Int):Value:=if n= -1 then .tuple #[aW l,aW [],.bool false] else .tuple #[aW (l.take n.toNat),aW (l.drop (n.toNat+2)),.bool true]
theorem ao9{l:List UInt8}{n:Int}(q:pg l n)(aj:oQ h):bI Tryz.prog main S 195 #[aW l,aW [46,46]] s h fun ai h' v=>ai=s/\h.aD h'/\v=tS l n:=by
 refine cc (args:=[aW l,aW [46,46]]) Tryz.func195 (by delta Tryz.f195;rfl) Tryz.ntmps195 (by simp) (by kernel_rfl) ?_;have af:=q.len;simp only [ad,seval];refine c0 call208 (ao8 q aj) fun s2 h2 v ⟨an,az,aB⟩=> ?_;subst an;subst az;subst aB;cases q with
 | no h0 h1 h2=>
  simp only [ad,seval,show decide ((-1:Int)>=0)=false from rfl];exact FR Tryz.results195 (by simp) (by simp) (by simp) ⟨rfl,.lC _,by simp [ak,tS]⟩
 | @yes a b h0 h1 h2 h3=>
  have v1:IntKind.i64.wrap ((a.length:Int)+2)=((a.length+2:Nat):Int):=by rw [dw (by omega) (by omega)];omega
  have l7:∀{h:ab} [K:KK Value],au Tryz.prog (Instr.sliceAt 9 (.string ⟨⟨a++46::46::b⟩⟩) none (some (.int .i64 a.length)) none) h=K.f (aW a) h:=fun {h K}=>by
   rw [xK (by simp),List.take_left' rfl]
  have tg:∀{h:ab} [K:KK Value],au Tryz.prog (Instr.sliceAt 9 (.string ⟨⟨a++46::46::b⟩⟩) (some (.int .i64 (a.length+2:Nat))) none none) h=K.f (aW b) h:=fun {h K}=>by
   rw [CB (by simp)];have:(a++46::46::b).drop (a.length+2)=b:=by rw [<- List.drop_drop,List.drop_left' rfl];rfl
   rw [this]
  simp only [ad,seval,decide_eq_true (show ((a.length:Nat):Int)>=0 by omega),kJ];intro t;refine p8 hR (by kernel_rfl) (by kernel_rfl) ?_ t
  repeat refine lF (fun h1 le=>by simp only [ad,seval,et,le,l7,tg,ha,v1];exact ⟨fun _ _ q=>q,rfl⟩) ?_
  rw [pt];intro h2 bM;simp only [ad,seval];refine FR Tryz.results195 (by simp) (by simp) (by simp) ⟨rfl,bM,?_⟩;have e1:¬((a.length:Int)= -1):=by omega
  have e2:(a++46::46::b).drop (a.length+2)=b:=by rw [<- List.drop_drop,List.drop_left' rfl];rfl
  rw [tS,if_neg e1,Int.toNat_natCast,e2,List.take_left' rfl];simp [ak]
theorem XS{l:List UInt8}{n:Int}(q:pg l n)(aj:oQ h):bI Tryz.prog main S 165 #[aW l,aW [46,46]] s h fun ai h' v=>ai=s/\h.aD h'/\v=tS l n:=by
 refine cc (args:=[aW l,aW [46,46]]) Tryz.func165 (by delta Tryz.f165;rfl) Tryz.ntmps165 (by simp) (by kernel_rfl) ?_;simp only [ad,seval];refine c0 call195 (ao9 q aj) fun s2 h2 v ⟨an,az,aB⟩=> ?_;subst an;subst aB;unfold tS;by_cases ao:n= -1
 ·rw [if_pos ao];simp only [ad,seval,fG];exact FR Tryz.results165 (by simp) (by simp) (by simp) ⟨rfl,az,by simp [ak]⟩
 ·rw [if_neg ao];simp only [ad,seval,fG];exact FR Tryz.results165 (by simp) (by simp) (by simp) ⟨rfl,az,by simp [ak]⟩
theorem WI{l:List UInt8}(h:∀x∈l,kM x=true):∀x∈l,(x==46)=false:=fun x aa=>by
 have:=wQ.1 (h x aa);rw [beq_eq_false_iff_ne];rintro rfl;simp at this
theorem Yo{a b:Int}[K:KK Value]:au Tryz.prog (Instr.build 63 #[(0,.int .i64 a),(1,.int .i64 b)]) h=K.f (jO (a,b)) h:=by kernel_rfl
theorem amJ{p:Int×Int}(h1:hx p.1)(h2:hx p.2)(h12:p.1<=p.2)(aj:oQ h):bI Tryz.prog main S 118 #[aW (jR p)] s h fun ai h' v=>ai=s/\h.aD h'/\v=.tuple #[jO p,.nilIface]:=by
 refine cc (args:=[aW (jR p)]) Tryz.func118 (by delta Tryz.f118;rfl) Tryz.ntmps118 (by simp) (by kernel_rfl) ?_;obtain ⟨db,v1⟩:=zh h1;obtain ⟨dB,v2⟩:=zh h2;have fg:=db.len;have l3:=dB.len;simp only [ad,seval];intro c2 h3 cN e2;have bM:=cS cN e2;have g2:=cq e2;by_cases bY:p.1<p.2
 ·have qW:jR p=dn p.1++46::46::dn p.2:=by rw [jR,if_pos bY];rfl
  have Bd:pg (jR p) (dn p.1).length:=by rw [qW];exact .yes (WI db.yj) fg.1 (by omega) l3.1
  have rU:tS (jR p) (dn p.1).length=.tuple #[aW (dn p.1),aW (dn p.2),.bool true]:=by
   have e1:¬(((dn p.1).length:Int)= -1):=by omega
   have e2:(dn p.1++46::46::dn p.2).drop ((dn p.1).length+2)=dn p.2:=by rw [<- List.drop_drop,List.drop_left' rfl];rfl
   rw [tS,if_neg e1,Int.toNat_natCast,qW,e2,List.take_left' rfl]
  refine c0 call165 (XS Bd (aj.le bM)) fun eW h4 v ⟨an,cd,aB⟩=> ?_;subst an;subst aB;rw [rU];simp only [ad,seval,fG];refine c0 call116 (Fb db) fun jl h5 v ⟨an,ey,aB⟩=> ?_;subst an;subst aB;simp only [ad,seval,fG,tR];refine c0 call116 (Fb dB) fun qU h6 v ⟨an,dY,aB⟩=> ?_;subst an;subst aB;have ne:(((ja (dn p.1):Nat):Int)==((ja (dn p.2):Nat):Int))=false:=by rw [v1,v2];simp;omega
  simp only [ad,seval,fG,Zh,ne,Yo,dY _ _ (ey _ _ (cd _ _ g2)),jO];intro h7 e7;have g7:=cq e7;have ff:h.aD h7:=fq (bM.aU (cd.aU (ey.aU dY))) cN e7;refine XR Tryz.results118 (by simp) (by simp) (c:=c2) (v:=.agg ⟨[.int .i64 (ja (dn p.1)),.int .i64 (ja (dn p.2))]⟩) (by simp [ak]) (Aq (by kernel_rfl) g7 rfl) ⟨rfl,ff,?_⟩;rw [v1,v2];simp [ak,jO]
 ·have qW:jR p=dn p.1:=by rw [jR,if_neg bY,List.append_nil]
  have Bd:pg (jR p) (-1):=by rw [qW];exact .no (WI db.yj) fg.1 (by omega)
  have rU:tS (jR p) (-1)=.tuple #[aW (dn p.1),aW [],.bool false]:=by rw [tS,if_pos rfl,qW]
  refine c0 call165 (XS Bd (aj.le bM)) fun eW h4 v ⟨an,cd,aB⟩=> ?_;subst an;subst aB;rw [rU];simp only [ad,seval,fG];refine c0 call116 (Fb db) fun jl h5 v ⟨an,ey,aB⟩=> ?_;subst an;subst aB;simp only [ad,seval,fG,tR,Yo,ey _ _ (cd _ _ g2),jO];intro h7 e7;have g7:=cq e7;have ff:h.aD h7:=fq (bM.aU (cd.aU ey)) cN e7;refine XR Tryz.results118 (by simp) (by simp) (c:=c2) (v:=.agg ⟨[.int .i64 (ja (dn p.1)),.int .i64 (ja (dn p.1))]⟩) (by simp [ak]) (Aq (by kernel_rfl) g7 rfl) ⟨rfl,ff,?_⟩;have:p.1=p.2:=by omega
  rw [v1];simp [ak,jO,this]
end
def fT(h:ab)(sl:Value)(el bo:Nat)(rows:List (List Value))(fj:Option Nat):Prop:=
 (fj=none/\rows=[]/\sl=.slice none 0 0)\/∃b cap arr,fj=some b/\sl=eO b 0 rows.length cap/\h b=some ⟨.cells arr el (0,0),true⟩/\arr.size=cap*bo/\rows.length<=cap/\arr.toList.take (rows.length*bo)=rows.flatten/\∀r∈rows,r.length=bo
theorem Vs{bo:Nat}:∀{rows:List (List Value)} {i j:Nat} {row:List Value} {x:Value},(∀r∈rows,r.length=bo)->rows[i]? =some row->row[j]? =some x->rows.flatten[i*bo+j]? =some x
 | [],i,j,row,x,_,hi,_=>by simp at hi
 | r::rows,i,j,row,x,al,hi,ae=>by
  have af:=al r (by simp);cases i with
  | zero=>
   simp at hi;subst hi;have:j<r.length:=(List.getElem?_eq_some_iff.1 ae).1;rw [List.flatten_cons,List.getElem?_append_left (by omega),Nat.zero_mul,Nat.zero_add];exact ae
  | succ i=>
   have:=Vs (rows:=rows) (i:=i) (fun r h=>al r (by simp [h])) (by simpa using hi) ae;rw [List.flatten_cons,List.getElem?_append_right (by rw [af,Nat.succ_mul];omega),af,Nat.succ_mul,show i*bo+bo+j- bo=i*bo+j by omega];exact this
theorem SY{bo:Nat}:∀{rows:List (List Value)},(∀r∈rows,r.length=bo)->rows.flatten.length=rows.length*bo
 | [],_=>by simp
 | r::rows,h=>by rw [List.flatten_cons,List.length_append,h r (by simp),SY (rows:=rows) fun r al=>h r (by simp [al]),List.length_cons,Nat.succ_mul];omega
theorem fT.at{h:ab}{sl:Value}{el bo:Nat}{rows:List (List Value)}{fj:Option Nat}(q:fT h sl el bo rows fj):dx h sl bo rows:=by
 rcases q with ⟨_,rfl,rfl⟩|⟨b,cap,arr,rfl,rfl,hb,aA,hc,aj,al⟩
 ·exact ⟨none,0,0,0,rfl,rfl,.inl rfl⟩
 ·refine ⟨_,0,_,_,rfl,rfl,.inr ⟨b,rfl,_,_,_,_,hb,fun i row hi j x ae=> ?_⟩⟩;have h1:=Vs al hi ae;rw [<- aj] at h1;have h2:=(List.getElem?_eq_some_iff.1 h1).1;rw [List.getElem?_take_of_lt (by simp at h2;omega)] at h1;rw [Nat.zero_add];simpa using h1
theorem fT.slice{h:ab}{sl:Value}{el bo:Nat}{rows:List (List Value)}{fj:Option Nat}(q:fT h sl el bo rows fj):∃a n c,sl=.slice a n c:=by
 rcases q with ⟨_,_,e⟩|⟨_,_,_,_,e,_⟩
 ·exact ⟨_,_,_,e⟩
 ·exact ⟨_,_,_,e⟩
theorem fT.keep{h h':ab}{sl:Value}{el bo:Nat}{rows:List (List Value)}{fj:Option Nat}(q:fT h sl el bo rows fj)(k:∀b x,fj=some b->h b=some x->h' b=some x):fT h' sl el bo rows fj:=by
 rcases q with q|⟨b,cap,arr,e,e2,hb,r⟩
 ·exact .inl q
 ·exact .inr ⟨b,cap,arr,e,e2,k _ _ e hb,r⟩
theorem fT.fresh{h h0:ab}{a:Option Addr}{n c:Nat}{el bo:Nat}{rows:List (List Value)}{fj:Option Nat}(q:fT h (.slice a n c) el bo rows fj)(k:∀d,fj=some d->h0 d=none)(A:Addr)(a8:a=some A):h0 A.block=none:=by
 rcases q with ⟨_,_,e⟩|⟨b,cap,arr,e,e2,_⟩
 ·cases e;cases a8
 ·cases e2;cases a8;exact k b e
theorem fT.nil{h:ab}{el bo:Nat}:fT h (.slice none 0 0) el bo [] none:=.inl ⟨rfl,rfl,rfl⟩
section
variable{P:Program}{h:ab}
theorem z8{t el bo bs:Nat}{ty:TypeId}{z:Value}(aj:P.underlying t=some (.slice el))(hs:cy P el=some bo)(fv:bytesOf P el=some bs)(aH:zeroOf P el=some z)(ks:z.cells.size=bo)(oU:1<=bo)(rz:1<=bs)(aa4:bs<=1000)
  {sl:Value} {rows:List (List Value)} {row:List Value} {fj:Option Nat} (q:fT h sl el bo rows fj) (al:row.length=bo) (hc:row.all jG=true) (af:rows.length<=150) {bV sX:Nat} (g2:h.iU ⟨bV,0,none⟩ 0 (1*bo)=some row) {K:Value->ab->Prop}
  (k:∀kS h' yk,(∀d x,fj≠some d->h d=some x->h' d=some x)->(yk=fj\/∃b9,yk=some b9/\h b9=none)->fT h' kS el bo (rows++[row]) yk->K kS h'):@au P _ (Builtin.append_ #[t,t] ty #[sl,eO bV 0 1 sX]) h ⟨K⟩:=by
 have grown:∀(kQ:List Value) (kI:Nat),kQ=rows.flatten->(∀r∈rows,r.length=bo)->rows.length+1<=kI->∀b,h b=none->∀rest:List Value,rest.length=(kI- (rows.length+1))*bo->K (.slice (some ⟨b,0,none⟩) (rows.length+1) kI) (h.put b ⟨.cells ⟨kQ++row++rest⟩ el,true⟩):=by
  intro kQ kI aQ yl gd b hb rest Yp;subst aQ;have I3:=SY yl;refine k _ _ (some b) (fun d x _ aa=> ?_) (.inr ⟨b,rfl,hb⟩) (.inr ⟨b,kI,⟨rows.flatten++row++rest⟩,rfl,by simp,dd,?_,by simpa using gd,?_,fun r l2=> ?_⟩)
  ·rw [cG (fun e=>by subst e;rw [hb] at aa;cases aa)];exact aa
  ·obtain ⟨k,rfl⟩:∃k,kI=rows.length+1+k:=⟨kI- (rows.length+1),by omega⟩;rw [show rows.length+1+k- (rows.length+1)=k by omega] at Yp;simp only [List.size_toArray,List.length_append,I3,al,Yp,Nat.add_mul,Nat.one_mul]
  ·rw [List.length_append,List.length_singleton,Nat.succ_mul,List.flatten_append];show ((rows.flatten++row)++rest).take _=_;rw [List.take_left' (by rw [List.length_append,I3,al])];simp
  ·rcases List.mem_append.1 l2 with q|q
   ·exact yl r q
   ·rw [List.mem_singleton.1 q];exact al
 have aa5:∀Q,bf P (Builtin.firstCells bo 1 (eO bV 0 1 sX)) h Q=Q ⟨row⟩ h:=fun Q=>yP g2 Q;rcases q with ⟨rfl,rfl,rfl⟩|⟨b,cap,arr,rfl,rfl,hb,aA,gd,eD,yl⟩
 ·refine u4 (m:=1) (new':=row) aj aj hs fv aH ks oU rz aa5 (fun hc=>by omega) (fun hc=>⟨by omega,aa4,[],fun Q=> ?_,fun eT h1 b hb rest al=> ?_⟩)
  ·rw [Builtin.firstCells];simp [bh]
  ·exact grown [] eT rfl (by simp) h1 b hb rest al
 ·refine u4 (m:=1) (new':=row) aj aj hs fv aH ks oU rz aa5 (fun jA=> ?_) (fun jA=>⟨by omega,aa4,rows.flatten,fun Q=> ?_,fun eT h1 b9 dW rest al=> ?_⟩)
  ·have eJ:rows.length*bo+row.length<=arr.size:=by
    rw [aA,al];have:(rows.length+1)*bo<=cap*bo:=Nat.mul_le_mul_right _ jA;rw [Nat.add_mul,Nat.one_mul] at this;exact this
   have st:=FP (h:=h) (c:=b) (q:=el) (vs:=row) (arr:=arr) (o:=rows.length*bo) (i:=0) (K:=fun h=>K (eO b 0 (rows.length+1) cap) h) hc (by omega);rw [ps hb,Nat.add_zero] at st;obtain ⟨f1,f2⟩:=MA row (rows.length*bo) arr eJ;have goal:=st.mpr ?_
   ·simp only [k5,Nat.zero_add];exact goal.2
   ·refine k _ _ (some b) (fun d x hd aa=> ?_) (.inl rfl) (.inr ⟨b,cap,_,rfl,by simp,dd,f1.trans aA,by simpa using jA,?_,fun r l2=> ?_⟩)
    ·rw [cG (fun e=>hd (by rw [e]))];exact aa
    ·rw [List.length_append,List.length_singleton,Nat.succ_mul,List.flatten_append,<- eD];rw [al] at f2;rw [Nat.add_zero,f2];simp
    ·rcases List.mem_append.1 l2 with q|q
     ·exact yl r q
     ·rw [List.mem_singleton.1 q];exact al
  ·refine yP (vs:=rows.flatten) ?_ Q;have:rows.length*bo<=arr.size:=by rw [aA];exact Nat.mul_le_mul_right _ gd
   rw [pj hb,ES _ _ (by omega)];simp [eD]
  ·exact grown rows.flatten eT rfl yl h1 b9 dW rest al
end
section
variable{h:ab}
theorem atT:(Array.range (1*1)).map (fun i=>(Value.cells (.int .i64 0))[i%(Value.cells (.int .i64 0)).size]!)=#[.int .i64 0]:=by kernel_rfl
theorem apa{a:Int}{K:Value->ab->Prop}(k:∀c h1,h c=none->h1=h.put c ⟨.cells ⟨[b4 a]⟩ 3 (0,0),true⟩->K (eO c 0 1 1) h1):@au Tryz.prog _ (Instr.buildSlice 44 1 #[(0,.int .i64 a)]) h ⟨K⟩:=by
 simp only [au,Instr.buildSlice,aV,df,Tryz.underlying44,gL,fQ,iD,z3,bh];rw [if_neg (by decide),if_neg (by decide)];simp only [aV,iD,z3,bh,atT];intro c hc;exact k c _ hc rfl
theorem Rf:zeroOf Tryz.prog 63=some (.agg #[.int .i64 0,.int .i64 0]):=by kernel_rfl
theorem aa6:cy Tryz.prog 63=some 2:=by kernel_rfl
theorem atU:(Array.range (1*2)).map (fun i=>(Value.cells (.agg #[.int .i64 0,.int .i64 0]))[i%(Value.cells (.agg #[.int .i64 0,.int .i64 0])).size]!)=#[.int .i64 0,.int .i64 0]:=by kernel_rfl
theorem amK{p:Int×Int}{K:Value->ab->Prop}(k:∀c h1,h c=none->h1=h.put c ⟨.cells ⟨[b4 p.1,b4 p.2]⟩ 63 (0,0),true⟩->K (eO c 0 1 1) h1):@au Tryz.prog _ (Instr.buildSlice 47 1 #[(0,.agg #[.int .i64 p.1,.int .i64 p.2])]) h ⟨K⟩:=by
 simp only [au,Instr.buildSlice,aV,df,Tryz.underlying47,gL,aa6,iD,Rf,bh];rw [if_neg (by decide),if_neg (by decide)];simp only [aV,iD,Rf,bh,atU];intro c hc;exact k c _ hc rfl
theorem axj:bytesOf Tryz.prog 3=some 8:=by kernel_rfl
theorem atV:bytesOf Tryz.prog 63=some 16:=by kernel_rfl
end
section
variable{main:Bool}{ah:Type}{S:Sys ah}{s:ah}{h:ab}
theorem call115:bP Tryz.prog 115=true:=by kernel_rfl
theorem call117:bP Tryz.prog 117=true:=by kernel_rfl
def B2(n:Int):List Value:=[b4 n]
def B3(p:Int×Int):List Value:=[b4 p.1,b4 p.2]
theorem Yq{h0 aa h1:ab}{c:Nat}{x:eI}{sl:Value}{el bo:Nat}{rows:List (List Value)}{fj:Option Nat}(q:fT aa sl el bo rows fj)(hc:aa c=none)(e:h1=aa.put c x):fT h1 sl el bo rows fj:=q.keep fun b y hb ax=>by
 subst e;rw [cG (fun e=>by subst e;rw [hc] at ax;cases ax)];exact ax
theorem FT{v:Value}{ns:List Int}(aI:nZ h v (ns.map dn))(ao:∀n∈ns,hx n)(af:ns.length<=100):bI Tryz.prog main S 115 #[v,.int .i64 ns.length,ea 116 []] s h fun ai h' z=>ai=s/\h.aD h'/\∃a n c,z=.tuple #[.slice a n c,.nilIface]/\ju h' (.slice a n c) ns/\∀A,a=some A->h A.block=none:=by
 refine cc (args:=[v,.int .i64 ns.length,ea 116 []]) Tryz.func115 (by delta Tryz.f115;rfl) Tryz.ntmps115 (by simp) (by kernel_rfl) ?_;obtain ⟨b,o,n,c,rfl,cR,hb⟩:=aI;simp only [List.length_map] at cR;subst cR;simp only [ad,seval,show (((ns.length:Nat):Int) != ((ns.length:Nat):Int))=false by simp];refine eG (I:=fun k e d cx aa=>∃i sl fj,k=ns.length- i/\i<=ns.length/\e 2=ea 116 []/\e 18=.slice b ns.length c/\e 19=.int .i64 ns.length/\e 20=.int .i64 i/\e 8=sl/\d=[]/\cx=s/\h.aD aa/\(∀d,fj=some d->h d=none)/\fT aa sl 3 1 ((ns.take i).map B2) fj) (fun k e d cx aa bU=> ?_) (m:=ns.length) ⟨0,.slice none 0 0,none,by simp,by simp,by simp [ak],by simp [ak],by simp [ak],by simp [ak],by simp [ak],rfl,rfl,.lC _,by simp,.nil⟩;obtain ⟨i,sl,fj,rfl,hi,e2,kY,ym,yn,cH,rfl,rfl,mA,sS,q⟩:=bU;obtain ⟨a1,db,c1,rfl⟩:=q.slice;rcases Nat.lt_or_ge i ns.length with hc|hc
 ·obtain ⟨mb,rfl,arr,j6,f,w',hm,al⟩:=hb.resolve_left (by omega);have g1:arr[o+i]? =some (aW (dn ns[i])):=by simpa using al i [aW (dn ns[i])] (by simp [hc]) 0 _ rfl
  have dL:=mA _ _ hm;have bd:decide ((i:Int)<ns.length)=true:=by simp;omega
  have yo:=ao _ (List.getElem_mem hc);have aj:(ns.take (i+1)).map B2=(ns.take i).map B2++[B2 ns[i]]:=by
   have:ns.take (i+1)=ns.take i++[ns[i]]:=by rw [List.take_add_one];simp [hc]
   rw [this,List.map_append];rfl
  generalize ns[i]=x at g1 yo aj;obtain ⟨DX,azH⟩:=zh yo;simp only [ad,seval,e2,kY,ym,yn,dL,g1,bd,mN,call116,List.append_nil];refine (Fb DX).mono fun t3 h3 z ⟨an,bK,aB⟩=> ?_;subst an;subst aB;rw [azH];simp only [ad,seval,fG,tR,cH];refine apa fun c3 h4 ed e4=> ?_;have cd:=cS ed e4;have g4:=cq e4;simp only [ad,seval];refine z8 (row:=B2 x) Tryz.underlying44 fQ axj z3 rfl (by decide) (by decide) (by decide) (Yq (h0:=h) (q.keep fun d y _ ax=>bK _ _ ax) ed e4) rfl rfl (by simp;omega) (by rw [pj g4];rfl) fun kS h5 yk k1 bX cp=> ?_;obtain ⟨a2,dB,c2,rfl⟩:=cp.slice;simp only [ad,seval,yn];have DG:=mA.aU (bK.aU cd);refine ⟨ns.length- (i+1),by omega,i+1,.slice a2 dB c2,yk,rfl,by omega,by simp [ak,e2],by simp [ak,kY],by simp [ak,ym],by simp [ak,dw (x:=(i:Int)+1) (by omega) (by omega)],by simp [ak],fun d y hd=>k1 _ _ (fun e=>by have:=sS d e;rw [this] at hd;cases hd) (DG _ _ hd),fun d hd=> ?_,by rw [aj];exact cp⟩;rcases bX with r|⟨b9,r,dW⟩
  ·exact sS d (r▸hd)
  ·rw [r] at hd;cases hd;exact jq DG dW
 ·have:i=ns.length:=by omega
  subst this;rw [List.take_length] at q;simp only [ad,seval,cH,ym,yn,decide_eq_false (show ¬((ns.length:Nat):Int)<ns.length by omega)];exact ny Tryz.results115 (by simp) (by simp) ⟨rfl,mA,a1,db,c1,by simp [ak],q.at,fun A a8=>q.fresh sS A a8⟩
theorem amL{v:Value}{ns:List (Int×Int)}(aI:nZ h v (ns.map jR))(ao:∀n∈ns,(hx n.1/\hx n.2)/\n.1<=n.2)(af:ns.length<=100)(h5:oQ h):bI Tryz.prog main S 117 #[v,.int .i64 ns.length,ea 118 []] s h fun ai h' z=>ai=s/\h.aD h'/\∃a n c,z=.tuple #[.slice a n c,.nilIface]/\pr h' (.slice a n c) ns/\∀A,a=some A->h A.block=none:=by
 refine cc (args:=[v,.int .i64 ns.length,ea 118 []]) Tryz.func117 (by delta Tryz.f117;rfl) Tryz.ntmps117 (by simp) (by kernel_rfl) ?_;obtain ⟨b,o,n,c,rfl,cR,hb⟩:=aI;simp only [List.length_map] at cR;subst cR;simp only [ad,seval,show (((ns.length:Nat):Int) != ((ns.length:Nat):Int))=false by simp];refine eG (I:=fun k e d cx aa=>∃i sl fj,k=ns.length- i/\i<=ns.length/\e 2=ea 118 []/\e 18=.slice b ns.length c/\e 19=.int .i64 ns.length/\e 20=.int .i64 i/\e 8=sl/\d=[]/\cx=s/\h.aD aa/\(∀d,fj=some d->h d=none)/\fT aa sl 63 2 ((ns.take i).map B3) fj) (fun k e d cx aa bU=> ?_) (m:=ns.length) ⟨0,.slice none 0 0,none,by simp,by simp,by simp [ak],by simp [ak],by simp [ak],by simp [ak],by simp [ak],rfl,rfl,.lC _,by simp,.nil⟩;obtain ⟨i,sl,fj,rfl,hi,e2,kY,ym,yn,cH,rfl,rfl,mA,sS,q⟩:=bU;obtain ⟨a1,db,c1,rfl⟩:=q.slice;rcases Nat.lt_or_ge i ns.length with hc|hc
 ·obtain ⟨mb,rfl,arr,j6,f,w',hm,al⟩:=hb.resolve_left (by omega);have g1:arr[o+i]? =some (aW (jR ns[i])):=by simpa using al i [aW (jR ns[i])] (by simp [hc]) 0 _ rfl
  have dL:=mA _ _ hm;have bd:decide ((i:Int)<ns.length)=true:=by simp;omega
  have yo:=ao _ (List.getElem_mem hc);have aj:(ns.take (i+1)).map B3=(ns.take i).map B3++[B3 ns[i]]:=by
   have:ns.take (i+1)=ns.take i++[ns[i]]:=by rw [List.take_add_one];simp [hc]
   rw [this,List.map_append];rfl
  generalize ns[i]=x at g1 yo aj;simp only [ad,seval,e2,kY,ym,yn,dL,g1,bd,mN,call118,List.append_nil];refine (amJ yo.1.1 yo.1.2 yo.2 (h5.le mA)).mono fun t3 h3 z ⟨an,bK,aB⟩=> ?_;subst an;subst aB;simp only [ad,seval,fG,jO];intro c6 h6 nd e6;have dY:=cS nd e6;have g6:=cq e6;simp only [ad,seval,g6];intro h7 e7;have ff:=fq dY nd e7;have g7:=cq e7;simp only [ad,seval,tR,cH,g7];refine amK fun c3 h4 ed e4=> ?_;have cd:=cS ed e4;have g4:=cq e4;simp only [ad,seval];refine z8 (row:=B3 x) Tryz.underlying47 aa6 atV Rf rfl (by decide) (by decide) (by decide) (Yq (h0:=h) (q.keep fun d y _ ax=>ff _ _ (bK _ _ ax)) ed e4) rfl rfl (by simp;omega) (by rw [pj g4];rfl) fun kS h8 yk k1 bX cp=> ?_;obtain ⟨a2,dB,c2,rfl⟩:=cp.slice;simp only [ad,seval,yn];have DG:=mA.aU (bK.aU (ff.aU cd));refine ⟨ns.length- (i+1),by omega,i+1,.slice a2 dB c2,yk,rfl,by omega,by simp [ak,e2],by simp [ak,kY],by simp [ak,ym],by simp [ak,dw (x:=(i:Int)+1) (by omega) (by omega)],by simp [ak],fun d y hd=>k1 _ _ (fun e=>by have:=sS d e;rw [this] at hd;cases hd) (DG _ _ hd),fun d hd=> ?_,by rw [aj];exact cp⟩;rcases bX with r|⟨b9,r,dW⟩
  ·exact sS d (r▸hd)
  ·rw [r] at hd;cases hd;exact jq DG dW
 ·have:i=ns.length:=by omega
  subst this;rw [List.take_length] at q;simp only [ad,seval,cH,ym,yn,decide_eq_false (show ¬((ns.length:Nat):Int)<ns.length by omega)];exact ny Tryz.results117 (by simp) (by simp) ⟨rfl,mA,a1,db,c1,by simp [ak],q.at,fun A a8=>q.fresh sS A a8⟩
end
inductive dD
 | jK (a b:Int)
 | kO (ns:List Int)
 | kG (bF:List (Int×Int))
 | ground
 | lP (s:iB)
 | lI (a:je)
def dD.fields:dD->List (List UInt8)
 | .jK a b=>[re,dn a,dn b]
 | .kO ns=>mO::ns.map dn
 | .kG bF=>lO::bF.map jR
 | .ground=>[oG]
 | .lP s=>[nz,s.name,dn s.dQ,dn s.size,dn s.iG]
 | .lI a=>[mR,a.name,dn a.size,dn a.gM,dn a.dQ]
def n2:List (List UInt8)->List UInt8
 | []=>[]
 | [f]=>f
 | f::g::fs=>f++32::n2 (g::fs)
def dD.text(l:dD):List UInt8:=n2 l.fields
theorem WJ{w:UInt8}(hw:w=32):∀{fs:List (List UInt8)},fs≠[]->(∀f∈fs,∀x∈f,(x==w)=false)->sp w (n2 fs)=fs
 | [],h,_=>(h rfl).elim
 | [f],_,h=>FQ (h f (by simp))
 | f::g::fs,_,h=>by
  subst hw;rw [n2,Oa (h f (by simp)),WJ rfl (by simp) fun y ax=>h y (by simp [ax])]
def ql(f:List UInt8):Prop:=f≠[]/\∀x∈f,(x==32)=false/\(x==10)=false
theorem MC{l:List UInt8}(q:HS l):ql l:=by
 refine ⟨fun e=> ?_,fun x aa=> ?_⟩
 ·have:=q.len.1;rw [e] at this;simp at this
 ·have:=wQ.1 (q.yj x aa);rw [beq_eq_false_iff_ne,beq_eq_false_iff_ne];exact ⟨by rintro rfl;simp at this,by rintro rfl;simp at this⟩
theorem Vt{l:List UInt8}(q:js l=true):ql l:=by
 simp only [js,Bool.and_eq_true,decide_eq_true_eq,List.all_eq_true,Bool.or_eq_true] at q;refine ⟨fun e=>by rw [e] at q;simp at q,fun x aa=> ?_⟩;have:=q.2.2 x aa;simp only [isLet,kM,Bool.and_eq_true,decide_eq_true_eq] at this;rw [beq_eq_false_iff_ne,beq_eq_false_iff_ne];exact ⟨by rintro rfl;simp at this,by rintro rfl;simp at this⟩
theorem ajI{p:Int×Int}(h1:hx p.1)(h2:hx p.2):ql (jR p):=by
 obtain ⟨a1,a2⟩:=MC (zh h1).1;obtain ⟨cl,bV⟩:=MC (zh h2).1;refine ⟨fun e=>a1 (List.append_eq_nil_iff.1 e).1,fun x aa=> ?_⟩;unfold jR at aa;rcases List.mem_append.1 aa with q|q
 ·exact a2 x q
 ·by_cases bY:p.1<p.2
  ·rw [if_pos bY] at q;rcases List.mem_append.1 q with r|r
   ·simp at r;subst r;decide
   ·exact bV x r
  ·rw [if_neg bY] at q;simp at q
def dD.cu:dD->Prop
 | .jK a b=>hx a/\hx b
 | .kO ns=>ns.length=4/\∀n∈ns,hx n
 | .kG bF=>bF.length=4/\∀n∈bF,(hx n.1/\hx n.2)/\n.1<=n.2
 | .ground=>True
 | .lP s=>js s.name=true/\hx s.dQ/\hx s.size/\hx s.iG
 | .lI a=>js a.name=true/\hx a.size/\hx a.gM/\hx a.dQ
theorem atW:ql re/\ql mO/\ql lO/\ql oG/\ql nz/\ql mR:=by
 unfold ql;decide
theorem dD.cu.tok{l:dD}(q:l.cu):∀f∈l.fields,ql f:=by
 have fM:∀{i},hx i->ql (dn i):=fun h=>MC (zh h).1;obtain ⟨t1,t2,t3,t4,t5,t6⟩:=atW;cases l with
 | jK a b=>
  intro f aP;simp only [dD.fields,List.mem_cons,List.not_mem_nil,or_false] at aP;rcases aP with rfl|rfl|rfl
  ·exact t1
  ·exact fM q.1
  ·exact fM q.2
 | kO ns=>
  intro f aP;simp only [dD.fields,List.mem_cons,List.mem_map] at aP;rcases aP with rfl|⟨n,ao,rfl⟩
  ·exact t2
  ·exact fM (q.2 n ao)
 | kG bF=>
  intro f aP;simp only [dD.fields,List.mem_cons,List.mem_map] at aP;rcases aP with rfl|⟨n,ao,rfl⟩
  ·exact t3
  ·exact ajI (q.2 n ao).1.1 (q.2 n ao).1.2
 | ground=>
  intro f aP;simp only [dD.fields,List.mem_cons,List.not_mem_nil,or_false] at aP;subst aP;exact t4
 | lP s=>
  intro f aP;simp only [dD.fields,List.mem_cons,List.not_mem_nil,or_false] at aP;rcases aP with rfl|rfl|rfl|rfl|rfl
  ·exact t5
  ·exact Vt q.1
  ·exact fM q.2.1
  ·exact fM q.2.2.1
  ·exact fM q.2.2.2
 | lI s=>
  intro f aP;simp only [dD.fields,List.mem_cons,List.not_mem_nil,or_false] at aP;rcases aP with rfl|rfl|rfl|rfl|rfl
  ·exact t6
  ·exact Vt q.1
  ·exact fM q.2.1
  ·exact fM q.2.2.1
  ·exact fM q.2.2.2
theorem dD.cu.sp{l:dD}(q:l.cu):Nk.sp 32 l.text=l.fields:=by
 refine WJ rfl ?_ fun f aP x aa=>((q.tok f aP).2 x aa).1;cases l<;>simp [dD.fields]
theorem Vu:∀{fs:List (List UInt8)} {x:UInt8},x∈n2 fs->x=32\/∃f∈fs,x∈f
 | [],x,h=>by simp [n2] at h
 | [f],x,h=>.inr ⟨f,by simp,h⟩
 | f::g::fs,x,h=>by
  rw [n2] at h;rcases List.mem_append.1 h with q|q
  ·exact .inr ⟨f,by simp,q⟩
  ·rcases List.mem_cons.1 q with r|r
   ·exact .inl r
   ·rcases Vu r with a|⟨f,aP,aa⟩
    ·exact .inl a
    ·exact .inr ⟨f,by simp [List.mem_cons.1 aP],aa⟩
theorem dD.cu.HT{l:dD}(q:l.cu):∀x∈l.text,(x==10)=false:=fun x aa=>by
 rcases Vu aa with rfl|⟨f,aP,aa⟩
 ·decide
 ·exact ((q.tok f aP).2 x aa).2
def AZ(h:ab)(v:Value):dD->Prop
 | .jK a b=>v=.iface 159 (.agg #[b4 a,b4 b])
 | .kO ns=>∃a n c,v=.iface 161 (.agg #[.slice a n c])/\ju h (.slice a n c) ns
 | .kG bF=>∃a n c,v=.iface 163 (.agg #[.slice a n c])/\pr h (.slice a n c) bF
 | .ground=>v=.iface 165 (.agg #[])
 | .lP s=>v=.iface 167 s.v
 | .lI s=>v=.iface 169 s.v
def axk(h:ab)(v:Value):Prop:=∀(A:Addr) w n c,v=.iface w (.agg #[.slice (some A) n c])->h A.block=none
theorem AZ.le{h h':ab}{v:Value}{l:dD}(le:h.aD h')(q:AZ h v l):AZ h' v l:=by
 cases l with
 | kO ns=>obtain ⟨a,n,c,e,r⟩:=q;exact ⟨a,n,c,e,dx.le le r⟩
 | kG ns=>obtain ⟨a,n,c,e,r⟩:=q;exact ⟨a,n,c,e,dx.le le r⟩
 | _=>exact q
section
variable{h:ab}
theorem arE{a:Array Value}[K:KK Value]:au Tryz.prog (Instr.makeInterface 159 (.agg a)) h=K.f (.iface 159 (.agg a)) h:=by kernel_rfl
theorem arF{a:Array Value}[K:KK Value]:au Tryz.prog (Instr.makeInterface 161 (.agg a)) h=K.f (.iface 161 (.agg a)) h:=by kernel_rfl
theorem arG{a:Array Value}[K:KK Value]:au Tryz.prog (Instr.makeInterface 163 (.agg a)) h=K.f (.iface 163 (.agg a)) h:=by kernel_rfl
theorem arH{a:Array Value}[K:KK Value]:au Tryz.prog (Instr.makeInterface 165 (.agg a)) h=K.f (.iface 165 (.agg a)) h:=by kernel_rfl
theorem arI{a:Array Value}[K:KK Value]:au Tryz.prog (Instr.makeInterface 167 (.agg a)) h=K.f (.iface 167 (.agg a)) h:=by kernel_rfl
theorem arJ{a:Array Value}[K:KK Value]:au Tryz.prog (Instr.makeInterface 169 (.agg a)) h=K.f (.iface 169 (.agg a)) h:=by kernel_rfl
theorem arK{a b:Int}[K:KK Value]:au Tryz.prog (Instr.build 159 #[(0,.int .i64 a),(1,.int .i64 b)]) h=K.f (.agg #[.int .i64 a,.int .i64 b]) h:=by kernel_rfl
theorem atX{a:Option Addr}{n c:Nat}[K:KK Value]:au Tryz.prog (Instr.build 46 #[(0,.slice a n c)]) h=K.f (.agg #[.slice a n c]) h:=by kernel_rfl
theorem arL{a:Value}[K:KK Value]:au Tryz.prog (Instr.build 161 #[(0,.agg #[a])]) h=K.f (.agg #[a]) h:=by kernel_rfl
theorem atY{a:Option Addr}{n c:Nat}[K:KK Value]:au Tryz.prog (Instr.build 49 #[(0,.slice a n c)]) h=K.f (.agg #[.slice a n c]) h:=by kernel_rfl
theorem arM{a:Value}[K:KK Value]:au Tryz.prog (Instr.build 163 #[(0,.agg #[a])]) h=K.f (.agg #[a]) h:=by kernel_rfl
theorem OW[K:KK Value]:au Tryz.prog (Instr.build 165 #[]) h=K.f (.agg #[]) h:=by kernel_rfl
theorem atZ{l:ByteArray}{a b c:Int}[K:KK Value]:au Tryz.prog (Instr.build 51 #[(0,.string l),(1,.int .i64 a),(2,.int .i64 b),(3,.int .i64 c)]) h=K.f (.agg #[.string l,.int .i64 a,.int .i64 b,.int .i64 c]) h:=by kernel_rfl
theorem arN{a b c d:Value}[K:KK Value]:au Tryz.prog (Instr.build 167 #[(0,.agg #[a,b,c,d])]) h=K.f (.agg #[a,b,c,d]) h:=by kernel_rfl
theorem at0{l:ByteArray}{a b c:Int}[K:KK Value]:au Tryz.prog (Instr.build 53 #[(0,.string l),(1,.int .i64 a),(2,.int .i64 b),(3,.int .i64 c)]) h=K.f (.agg #[.string l,.int .i64 a,.int .i64 b,.int .i64 c]) h:=by kernel_rfl
theorem arO{a b c d:Value}[K:KK Value]:au Tryz.prog (Instr.build 169 #[(0,.agg #[a,b,c,d])]) h=K.f (.agg #[a,b,c,d]) h:=by kernel_rfl
end
section
variable{P:Program}{h:ab}
theorem OX{t e c o n dS l:Nat}(aj:P.underlying t=some (.slice e))(he:cy P e=some 1)(af:l<=n)(ao:n<=dS){K:Value->ab->Prop}(k:K (eO c (if dS=l then o else o+l) (n- l) (dS- l)) h):@au P _ (Instr.sliceAt t (eO c o n dS) (some (.int .i64 l)) none none) h ⟨K⟩:=by
 simp only [au,Instr.sliceAt,aV,df,aj];simp only [Instr.slice,aV,df,aj];refine EF (.inr ⟨rfl,rfl⟩) (.inl ⟨_,rfl,af⟩) _ ?_;simp only [aV,gL,he,bh];by_cases e1:dS=l
 ·rw [if_pos e1] at k ⊢;exact k
 ·rw [if_neg e1] at k ⊢;simp only [Option.map_some,k5,Nat.mul_one];exact k
theorem nZ.tail{m o n dS:Nat}{w:List UInt8}{rest:List (List UInt8)}(q:nZ h (eO m o n dS) (w::rest))(ao:n<=dS):nZ h (eO m (if dS=1 then o else o+1) (n- 1) (dS- 1)) rest:=by
 obtain ⟨b,aO,n',c,e,cR,hb⟩:=q;cases e;simp only [List.length_map,List.length_cons] at cR;subst cR;rcases hb with q|⟨dR,e,arr,q,f,w',hm,al⟩
 ·omega
 cases e;refine ⟨_,if dS=1 then o else o+1,_,_,rfl,by simp,.inr ⟨m,rfl,arr,q,f,w',hm,fun i row hi j x ae=> ?_⟩⟩;have af:i<rest.length:=by have:=(List.getElem?_eq_some_iff.1 hi).1;simpa using this
 rw [if_neg (by omega)];have:=al (i+1) row (by simpa using hi) j x ae;rw [show o+1+i*1+j=o+(i+1)*1+j by omega];exact this
theorem nZ.get{m o n dS:Nat}{l:List (List UInt8)}(q:nZ h (eO m o n dS) l):n=l.length/\(l=[]\/∃arr q f w,h m=some ⟨.cells arr q f,w⟩/\∀i x,l[i]? =some x->arr[o+i]? =some (aW x)):=by
 obtain ⟨b,aO,n',b2,e,cR,hb⟩:=q;cases e;simp only [List.length_map] at cR;refine ⟨cR.symm,?_⟩;rcases hb with r|⟨dR,e,arr,q,f,w,hm,al⟩
 ·exact .inl (List.length_eq_zero_iff.1 (by omega))
 ·cases e;refine .inr ⟨arr,q,f,w,hm,fun i x aa=> ?_⟩;have:=al i [aW x] (by simp [aa]) 0 _ rfl;simpa using this
theorem ju.get{a:Option Addr}{n c:Nat}{ns:List Int}(q:ju h (.slice a n c) ns):n=ns.length/\(ns=[]\/∃m o,a=some ⟨m,o,none⟩/\∃arr q f w,h m=some ⟨.cells arr q f,w⟩/\∀i x,ns[i]? =some x->arr[o+i]? =some (.int .i64 x)):=by
 obtain ⟨b,o,n',b2,e,cR,hb⟩:=q;cases e;simp only [List.length_map] at cR;refine ⟨cR.symm,?_⟩;rcases hb with r|⟨m,rfl,arr,q,f,w,hm,al⟩
 ·exact .inl (List.length_eq_zero_iff.1 (by omega))
 ·refine .inr ⟨m,o,rfl,arr,q,f,w,hm,fun i x aa=> ?_⟩;have:=al i [b4 x] (by simp [aa]) 0 _ rfl;simpa [b4] using this
end
def aa7(l:List Oper):Bool:=(List.range l.length).all fun i=>match l[i]? with
 | some o=>(iQ o.op).all fun t=>(List.range l.length).all fun j=>match l[j]? with
  | some aO=>aO.dst != some t||(if Nat.blt j i then kK l i j else Nat.beq i j||kK l j i)
  | none=>true
 | none=>true
theorem amM{l:List Oper}(h:aa7 l=true){i j t:Nat}{o aO:Oper}(hi:l[i]? =some o)(ae:l[j]? =some aO)(aj:t∈iQ o.op)(hd:aO.dst=some t):(j<i/\kK l i j=true)\/j=i\/(i<j/\kK l j i=true):=by
 have oC:=(List.getElem?_eq_some_iff.1 hi).1;have gY:=(List.getElem?_eq_some_iff.1 ae).1;have h1:=List.all_eq_true.1 h i (List.mem_range.2 oC);rw [hi] at h1;have h2:=List.all_eq_true.1 (List.all_eq_true.1 h1 t aj) j (List.mem_range.2 gY);rw [ae] at h2;simp only [hd,bne_self_eq_false,Bool.false_or] at h2;by_cases bY:j<i
 ·rw [if_pos (show Nat.blt j i=true from Nat.ble_eq_true_of_le bY)] at h2;exact .inl ⟨bY,h2⟩
 ·rw [if_neg (show ¬Nat.blt j i=true from fun q=>bY (Nat.le_of_ble_eq_true q))] at h2;rw [Bool.or_eq_true] at h2;rcases h2 with q|q
  ·exact .inr (.inl (Nat.eq_of_beq_eq_true q).symm)
  ·by_cases e:j=i
   ·exact .inr (.inl e)
   ·exact .inr (.inr ⟨by omega,q⟩)
section
variable{P:Program}{main:Bool}{ah:Type}{S:Sys ah}{b:bn}
theorem Zj{s:ah}{h0:ab}:∀{l:List Oper} {e0:Env} {N:Env->Prop},vo P main S b s h0 l e0 N->∃E:Nat->Env,E 0=e0/\N (E l.length)/\∀i o,l[i]? =some o->∃v,E (i+1)=cv (E i) o.dst v/\∀h,h0.aD h->eU P main S b o.type o.op (aS (E i)) s h fun ai h' bQ=>ai=s/\h.aD h'/\bQ=v
 | [],e0,N,u=>⟨fun _=>e0,rfl,u,fun i o hi=>by simp at hi⟩
 | o::l,e0,N,⟨v,aI,u⟩=>by
  obtain ⟨E,h1,h2,h3⟩:=Zj u;refine ⟨fun|0=>e0|i+1=>E i,rfl,h2,fun i aO hi=> ?_⟩;cases i with
  | zero=>simp at hi;subst hi;exact ⟨v,h1,aI⟩
  | succ i=>exact h3 i aO (by simpa using hi)
theorem aeq{l:List Oper}{d:List Deferred}{N:Env->List Deferred->ah->ab->Prop}(lR:P.follows .mixedOrders=true)(h1:od l=true)(h2:nu 0 l=true)(h3:(l.all fun o=>vj o.op)=true)(h4:aa7 l=true){e0:Env}{s:ah}{h0:ab}
  (u:vo P main S b s h0 l e0 fun E=>∀h,h0.aD h->N E d s h) (t:Nat):gk P main S b l.toArray (Region.schedule (P.follows .mixedOrders) l.toArray t) e0 d s h0 N:=by
 obtain ⟨E,k0,R6,k⟩:=Zj u;have aH:l.toArray.size=l.length:=by simp
 have sV:∀(t n m:Nat),m+n<=l.length->(∀j o,m<=j->j<m+n->l[j]? =some o->o.dst≠some t)->E (m+n) t=E m t:=by
  intro t n
  induction n with
  | zero=>intros;rfl
  | succ n aN=>
   intro m hm ae;have af:m+n<l.length:=by omega
   obtain ⟨v,e,_⟩:=k (m+n) l[m+n] (List.getElem?_eq_getElem af);have ao:=ae (m+n) l[m+n] (by omega) (by omega) (List.getElem?_eq_getElem af);show E (m+n+1) t=_;rw [e,<- aN m (by omega) fun j o a b=>ae j o a (by omega)];cases hd:l[m+n].dst with
   | none=>rfl
   | some d=>rw [cM,aZ,if_neg (fun q=>ao (by rw [hd,q]))]
 have two:∀{i j:Nat} {o aO:Oper} {t:Nat},l[i]? =some o->l[j]? =some aO->o.dst=some t->aO.dst=some t->i=j:=fun hi ae e e'=>ze h1 hi ae (e.trans e'.symm) (by rw [e];simp);have early:∀{i j t:Nat} {o:Oper},l[j]? =some o->o.dst=some t->i<=j->E i t=e0 t:=fun {i j t o} ae hd m2=>by
  have gY:=(List.getElem?_eq_some_iff.1 ae).1;have:=sV t i 0 (by omega) fun mG aO _ bY kr e'=>by have:=two kr ae e' hd;omega
  rw [Nat.zero_add] at this;rw [this,k0]
 have late:∀{i j t:Nat} {o:Oper},l[j]? =some o->o.dst=some t->j<i->i<=l.length->E i t=E l.length t:=fun {i j t o} ae hd m2 hi=>by
  have:=sV t (l.length- i) i (by omega) fun mG aO hle _ kr e'=>by have:=two kr ae e' hd;omega
  rw [show i+(l.length- i)=l.length by omega] at this;exact this.symm
 have never:∀{i t:Nat},(∀(j:Nat) (o:Oper),l[j]? =some o->o.dst≠some t)->i<=l.length->E i t=e0 t:=fun {i t} ao hi=>by
  have:=sV t i 0 (by omega) fun j o _ _ ae=>ao j o ae;rw [Nat.zero_add] at this;rw [this,k0]
 unfold Region.schedule;rw [lR,Bool.true_or,if_pos rfl];refine y1 (ops:=l.toArray) h2 (fun D e ai h=>ai=s/\h0.aD h/\(∀(j:Nat) (o:Oper),l[j]? =some o->D j=true->∀x∈o.after,Region.binds .any x=true->x.on<l.length->D x.on=true)/\(∀t,(∀(j:Nat) (o:Oper),l[j]? =some o->o.dst≠some t)->e t=e0 t)/\∀(j:Nat) (o:Oper) (t:Nat),l[j]? =some o->o.dst=some t->e t=if D j=true then E l.length t else e0 t)
  (fun D l5 e ai h lZ ⟨an,az,aB,aX,cp⟩=> ?_) (fun D e ai h i o ⟨an,az,aB,aX,cp⟩ hi iv aQ nY=> ?_) (fun D e ai h ⟨an,az,aB,aX,cp⟩ kn=> ?_) ⟨rfl,fun _ _ e=>e,fun _ _ _ q=>(Bool.false_ne_true q).elim,fun _ _=>rfl,fun _ _ _ _ _=>rfl⟩ t
 ·rw [aH] at lZ;refine ⟨an,az,fun j o ae du x aa hb af=> ?_,aX,fun j o t ae aj=> ?_⟩
  ·have gY:=(List.getElem?_eq_some_iff.1 ae).1;rw [<- lZ x.on af];exact aB j o ae (by rw [lZ j gY];exact du) x aa hb af
  ·have gY:=(List.getElem?_eq_some_iff.1 ae).1;rw [<- lZ j gY];exact cp j o t ae aj
 ·subst an;have c9:l[i]? =some o:=by simpa using aQ
  have oC:=(List.getElem?_eq_some_iff.1 c9).1;have hw:Region.wanted o (kH l.toArray e)=true:=by simp [Region.wanted,zd h1 c9]
  rw [if_pos hw];have hc:=List.all_eq_true.1 h3 o (List.mem_of_getElem? c9);obtain ⟨v,e1,aI⟩:=k i o c9;have al:∀t∈iQ o.op,e t=E i t:=fun t aj=>by
   by_cases hex:∃(j:Nat) (aO:Oper),l[j]? =some aO/\aO.dst=some t
   ·obtain ⟨j,aO,ae,hd⟩:=hex;have gY:=(List.getElem?_eq_some_iff.1 ae).1;rcases amM h4 c9 ae aj hd with ⟨a,c⟩|a|⟨a,c⟩
    ·unfold kK at c;rw [c9] at c;obtain ⟨x,aa,hb⟩:=List.any_eq_true.1 c;simp only [Bool.and_eq_true,beq_iff_eq] at hb;have du:=nY x (by simpa using aa) hb.1;rw [hb.2] at du;rw [cp j aO t ae hd,if_pos du,late ae hd a (by omega)]
    ·subst a;rw [cp j aO t ae hd,if_neg (by rw [iv];exact Bool.false_ne_true),early ae hd (Nat.le_refl _)]
    ·have pJ:D j=false:=by
      cases du:D j with
      | false=>rfl
      | true=>
       unfold kK at c;rw [ae] at c;obtain ⟨x,aa,hb⟩:=List.any_eq_true.1 c;simp only [Bool.and_eq_true,beq_iff_eq] at hb;have:=aB j aO ae du x (by simpa using aa) hb.1 (by rw [hb.2];exact oC);rw [hb.2,iv] at this;cases this
     rw [cp j aO t ae hd,if_neg (by rw [pJ];exact Bool.false_ne_true),early ae hd (by omega)]
   ·have ao:∀(j:Nat) (aO:Oper),l[j]? =some aO->aO.dst≠some t:=fun j aO ae hd=>hex ⟨j,aO,ae,hd⟩;rw [aX t ao,never ao (by omega)]
  have st:=aI h az;rw [<- zf hc al] at st;refine tk (E7 hc (y7 (fun s2 h2 bQ ⟨r1,r2,r3⟩=> ?_) st));subst r1;subst r3;refine ⟨rfl,rfl,fun b x e=>r2 b x (az b x e),fun j oz ae du x aa hb af=> ?_,fun t ao=> ?_,fun j oz t ae hd=> ?_⟩
  ·by_cases e2:x.on=i
   ·simp [e2]
   ·simp only [if_neg e2];by_cases e3:j=i
    ·subst e3;rw [c9] at ae;cases ae;exact nY x aa hb
    ·simp only [if_neg e3] at du;exact aB j oz ae du x aa hb af
  ·cases hd:o.dst with
   | none=>exact aX t ao
   | some d=>rw [cM,aZ,if_neg (fun q=>ao i o c9 (by rw [hd,q]))];exact aX t ao
  ·by_cases e3:j=i
   ·subst e3;rw [c9] at ae;cases ae;simp only [if_true];rw [<- late c9 hd (Nat.lt_succ_self _) oC,e1,hd];simp only [cM,aZ,if_true]
   ·simp only [if_neg e3];rw [<- cp j oz t ae hd];cases uu:o.dst with
    | none=>rfl
    | some d=>rw [cM,aZ,if_neg (fun q=>e3 (two ae c9 hd (by rw [uu,q])))]
 ·subst an;have:e=E l.length:=by
   funext t;by_cases hex:∃(j:Nat) (aO:Oper),l[j]? =some aO/\aO.dst=some t
   ·obtain ⟨j,aO,ae,hd⟩:=hex;rw [cp j aO t ae hd,if_pos (kn j (by rw [aH];exact (List.getElem?_eq_some_iff.1 ae).1))]
   ·have ao:∀(j:Nat) (aO:Oper),l[j]? =some aO->aO.dst≠some t:=fun j aO ae hd=>hex ⟨j,aO,ae,hd⟩;rw [aX t ao,never ao (Nat.le_refl _)]
  subst this;exact R6 h az
end
section
variable{main:Bool}{ah:Type}{S:Sys ah}{s:ah}{h:ab}
theorem call74:bP Tryz.prog 74=true:=by kernel_rfl
theorem ajJ{l:dD}(q:l.cu)(af:l.text.length<=90000)(h5:oQ h):bI Tryz.prog main S 74 #[aW l.text] s h fun ai h' z=>ai=s/\h.aD h'/\∃t v,z=.tuple #[.iface t v,.nilIface]/\AZ h' (.iface t v) l/\axk h (.iface t v):=by
 refine cc (args:=[aW l.text]) Tryz.func74 (by delta Tryz.f74;rfl) Tryz.ntmps74 (by simp) (by kernel_rfl) ?_;have azI:=q.tok;simp only [ad,seval];refine c0 call113 (ajG (w:=32) af) fun s2 h2 v ⟨an,bM,⟨m,o,n,dS,e,ao⟩,aB⟩=> ?_;subst an;subst e;rw [q.sp] at aB;simp only [ad,seval];have I3:l.fields.length<=90000:=by
  cases l with
  | kO ns=>have:=q.1;simp [dD.fields];omega
  | kG ns=>have:=q.1;simp [dD.fields];omega
  | _=>simp [dD.fields]
 refine c0 call114 (adM aB I3 fun f aP=>(azI f aP).1) fun fQ h3 v ⟨an,az,aX⟩=> ?_;subst an;subst az;subst aX;simp only [ad,seval,kJ];obtain ⟨w,rest,aP⟩:∃w rest,l.fields=w::rest:=by cases l<;>exact ⟨_,_,rfl⟩
 rw [aP] at aB;have aX:=aB.tail ao;obtain ⟨b9,aO,n',b2,e,cR,hb⟩:=id aB;cases e;simp only [List.length_map,List.length_cons] at cR;obtain ⟨dR,e,arr,ty,f,ab8,hm,al⟩:=hb.resolve_left (by omega);cases e;have g0:arr[o]? =some (aW w):=by simpa using al 0 [aW w] (by simp) 0 _ rfl
 have dL:∀h,h3.aD h->h m=_:=fun h le=>le _ _ hm;have bd:decide ((0:Int)<(n:Int))=true:=by simp;omega
 intro t;refine aeq hR (by kernel_rfl) (by kernel_rfl) (by kernel_rfl) (by kernel_rfl) ?_ t
 repeat refine lF (fun h1 le=>by simp only [ad,seval,et,le,dL,g0,bd];exact ⟨fun _ _ q=>q,rfl⟩) ?_
 refine lF (v:=eO m (if dS=1 then o else o+1) (n- 1) (dS- 1)) (fun h1 le=> ?_) ?_
 ·simp only [ad,seval,et];exact OX (l:=1) Tryz.underlying98 mI (by omega) ao ⟨rfl,.lC _,rfl⟩
 repeat refine lF (fun h1 le=>by simp only [ad,seval,et,le,dL,g0,bd];exact ⟨fun _ _ q=>q,rfl⟩) ?_
 rw [pt];intro h4 cd;have cp:=dx.le cd aX;generalize (if dS=1 then o else o+1)=o2 at cp;clear aX dL g0 hm al hb aB;simp only [ad,seval];cases l with
 | jK x y=>
  cases aP;have h54:=h5.le (bM.aU cd);simp only [ad,seval,ki,show (re==[98,111,115,115])=true from rfl];refine c0 call115 (FT (ns:=[x,y]) cp (fun n ao=>by simp at ao;rcases ao with rfl|rfl;exact q.1;exact q.2) (by simp)) fun jl h6 z ⟨an,dY,a,dB,c2,az,fw,o8⟩=> ?_;subst an;subst az;simp only [ad,seval,fG,tR,kJ];obtain ⟨DH,r⟩:=fw.get;obtain ⟨jj,pT,rfl,vG,aa8,f3,w3,yi,qM⟩:=r.resolve_left (by simp);have DI:dB=2:=DH;subst DI;have a0:=qM 0 x rfl;have a1:=qM 1 y rfl;rw [Nat.add_zero] at a0;have wx:∀h,h6.aD h->h jj=_:=fun h le=>le _ _ yi;have b0:(decide ((0:Int)<=0)&&decide ((0:Int)<((2:Nat):Int)))=true:=rfl;have cl:(decide ((0:Int)<=1)&&decide ((1:Int)<((2:Nat):Int)))=true:=rfl;have t1:(1:Int).toNat=1:=rfl;intro t;refine p8 hR (by kernel_rfl) (by kernel_rfl) ?_ t
  repeat refine lF (fun h1 le=>by simp only [ad,seval,et,le,wx,a0,a1,b0,cl,t1,arK,arE];exact ⟨fun _ _ q=>q,rfl⟩) ?_
  rw [pt];intro h7 ff;simp only [ad,seval];exact ny Tryz.results74 (by simp) (by simp) ⟨rfl,bM.aU (cd.aU (dY.aU ff)),159,.agg #[.int .i64 x,.int .i64 y],by simp [ak],rfl,fun A w n c e=>by cases e⟩
 | kO ns=>
  cases aP;obtain ⟨an,az⟩:=q;simp only [ad,seval,ki,show (mO==[98,111,115,115])=false from rfl,show (mO==[108,97,121,101,114])=true from rfl];have lx:=fun s=>FT (main:=main) (S:=S) (s:=s) (ns:=ns) cp az (by omega);simp only [an] at lx;refine c0 call115 (lx _) fun jl h6 z ⟨an,dY,a,dB,c2,az,fw,o8⟩=> ?_;subst an;subst az;simp only [ad,seval,fG,atX,arL,arF];exact ny Tryz.results74 (by simp) (by simp) ⟨rfl,bM.aU (cd.aU dY),161,.agg #[.slice a dB c2],by simp [ak],⟨a,dB,c2,rfl,fw⟩,fun A w n c e=>by cases e;exact jq (bM.aU cd) (o8 _ rfl)⟩
 | kG bF=>
  cases aP;obtain ⟨an,az⟩:=q;have h54:=h5.le (bM.aU cd);simp only [ad,seval,ki,show (lO==[98,111,115,115])=false from rfl,show (lO==[108,97,121,101,114])=false from rfl,show (lO==[115,101,115,115,105,111,110])=true from rfl];have lx:=fun s=>amL (main:=main) (S:=S) (s:=s) (ns:=bF) cp az (by omega) h54;simp only [an] at lx;refine c0 call117 (lx _) fun jl h6 z ⟨an,dY,a,dB,c2,az,fw,o8⟩=> ?_;subst an;subst az;simp only [ad,seval,fG,atY,arM,arG];exact ny Tryz.results74 (by simp) (by simp) ⟨rfl,bM.aU (cd.aU dY),163,.agg #[.slice a dB c2],by simp [ak],⟨a,dB,c2,rfl,fw⟩,fun A w n c e=>by cases e;exact jq (bM.aU cd) (o8 _ rfl)⟩
 | ground=>
  cases aP;have IW:n=1:=cR.symm;subst IW;simp only [ad,seval,ki,show (oG==[98,111,115,115])=false from rfl,show (oG==[108,97,121,101,114])=false from rfl,show (oG==[115,101,115,115,105,111,110])=false from rfl,show (oG==[103,114,111,117,110,100])=true from rfl,show decide (((1- 1:Nat):Int)>0)=false from rfl,OW,arH];exact ny Tryz.results74 (by simp) (by simp) ⟨rfl,bM.aU cd,165,.agg #[],by simp [ak],rfl,fun A w n c e=>by cases e⟩
 | lP x=>
  cases aP;obtain ⟨pK,r⟩:=nZ.get cp;obtain ⟨vy,Z8,f2,axl,gB,l2⟩:=r.resolve_left (by simp);have n0:=l2 0 _ rfl;rw [Nat.add_zero] at n0;have ow:=nZ.tail cp (by omega);simp only [ad,seval,ki,show (nz==[98,111,115,115])=false from rfl,show (nz==[108,97,121,101,114])=false from rfl,show (nz==[115,101,115,115,105,111,110])=false from rfl,show (nz==[103,114,111,117,110,100])=false from rfl,show (((n- 1:Nat):Int)==0)=false by simp at pK ⊢;omega];refine OX (l:=1) Tryz.underlying98 mI (by simp at pK;omega) (by omega) ?_;simp only [ad,seval];refine c0 call115 (FT (ns:=[x.dQ,x.size,x.iG]) ow (fun n ao=>by simp at ao;rcases ao with rfl|rfl|rfl;exact q.2.1;exact q.2.2.1;exact q.2.2.2) (by simp)) fun jl h6 z ⟨an,dY,a,dB,c2,az,fw,o8⟩=> ?_;subst an;subst az;simp only [ad,seval,fG,tR,ki,show (nz==[115,116,97,110,100])=true from rfl,kJ];obtain ⟨DH,r⟩:=fw.get;obtain ⟨jj,pT,rfl,vG,aa8,f3,w3,yi,qM⟩:=r.resolve_left (by simp);have DI:dB=3:=DH;subst DI;have a0:=qM 0 x.dQ rfl;have a1:=qM 1 x.size rfl;have a2:=qM 2 x.iG rfl;rw [Nat.add_zero] at a0;have wx:∀h,h6.aD h->h jj=_:=fun h le=>le _ _ yi;have ye:∀h,h6.aD h->h m=_:=fun h le=>le _ _ (dY _ _ gB);have R7:decide ((0:Int)<((n- 1:Nat):Int))=true:=by simp at pK ⊢;omega
  have b0:(decide ((0:Int)<=0)&&decide ((0:Int)<((3:Nat):Int)))=true:=rfl;have cl:(decide ((0:Int)<=1)&&decide ((1:Int)<((3:Nat):Int)))=true:=rfl;have bV:(decide ((0:Int)<=2)&&decide ((2:Int)<((3:Nat):Int)))=true:=rfl;have t1:(1:Int).toNat=1:=rfl;have t2:(2:Int).toNat=2:=rfl;intro t;refine p8 hR (by kernel_rfl) (by kernel_rfl) ?_ t
  repeat refine lF (fun h1 le=>by simp only [ad,seval,et,le,ye,wx,n0,a0,a1,a2,R7,b0,cl,bV,t1,t2,atZ,arN,arI];exact ⟨fun _ _ q=>q,rfl⟩) ?_
  rw [pt];intro h7 ff;simp only [ad,seval];exact ny Tryz.results74 (by simp) (by simp) ⟨rfl,bM.aU (cd.aU (dY.aU ff)),167,x.v,by simp [ak,iB.v,b4],rfl,fun A w n c e=>by cases e⟩
 | lI x=>
  cases aP;obtain ⟨pK,r⟩:=nZ.get cp;obtain ⟨vy,Z8,f2,axl,gB,l2⟩:=r.resolve_left (by simp);have n0:=l2 0 _ rfl;rw [Nat.add_zero] at n0;have ow:=nZ.tail cp (by omega);simp only [ad,seval,ki,show (mR==[98,111,115,115])=false from rfl,show (mR==[108,97,121,101,114])=false from rfl,show (mR==[115,101,115,115,105,111,110])=false from rfl,show (mR==[103,114,111,117,110,100])=false from rfl,show (((n- 1:Nat):Int)==0)=false by simp at pK ⊢;omega];refine OX (l:=1) Tryz.underlying98 mI (by simp at pK;omega) (by omega) ?_;simp only [ad,seval];refine c0 call115 (FT (ns:=[x.size,x.gM,x.dQ]) ow (fun n ao=>by simp at ao;rcases ao with rfl|rfl|rfl;exact q.2.1;exact q.2.2.1;exact q.2.2.2) (by simp)) fun jl h6 z ⟨an,dY,a,dB,c2,az,fw,o8⟩=> ?_;subst an;subst az;simp only [ad,seval,fG,tR,ki,show (mR==[115,116,97,110,100])=false from rfl,show (mR==[97,114,99,104,101,114])=true from rfl,kJ];obtain ⟨DH,r⟩:=fw.get;obtain ⟨jj,pT,rfl,vG,aa8,f3,w3,yi,qM⟩:=r.resolve_left (by simp);have DI:dB=3:=DH;subst DI;have a0:=qM 0 x.size rfl;have a1:=qM 1 x.gM rfl;have a2:=qM 2 x.dQ rfl;rw [Nat.add_zero] at a0;have wx:∀h,h6.aD h->h jj=_:=fun h le=>le _ _ yi;have ye:∀h,h6.aD h->h m=_:=fun h le=>le _ _ (dY _ _ gB);have R7:decide ((0:Int)<((n- 1:Nat):Int))=true:=by simp at pK ⊢;omega
  have b0:(decide ((0:Int)<=0)&&decide ((0:Int)<((3:Nat):Int)))=true:=rfl;have cl:(decide ((0:Int)<=1)&&decide ((1:Int)<((3:Nat):Int)))=true:=rfl;have bV:(decide ((0:Int)<=2)&&decide ((2:Int)<((3:Nat):Int)))=true:=rfl;have t1:(1:Int).toNat=1:=rfl;have t2:(2:Int).toNat=2:=rfl;intro t;refine p8 hR (by kernel_rfl) (by kernel_rfl) ?_ t
  repeat refine lF (fun h1 le=>by simp only [ad,seval,et,le,ye,wx,n0,a0,a1,a2,R7,b0,cl,bV,t1,t2,at0,arO,arJ];exact ⟨fun _ _ q=>q,rfl⟩) ?_
  rw [pt];intro h7 ff;simp only [ad,seval];exact ny Tryz.results74 (by simp) (by simp) ⟨rfl,bM.aU (cd.aU (dY.aU ff)),169,x.v,by simp [ak,je.v,b4],rfl,fun A w n c e=>by cases e⟩
end
end
end Go.Nk
