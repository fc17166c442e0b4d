/- Part Pax of the proof of ButtTexts: lemmas. -/
import Derived.Test.YthgephlghkjiaaaGreatDoorPaw
set_option maxRecDepth 100000
set_option maxHeartbeats 4000000
set_option linter.all false
namespace Go.Nk
noncomputable section
open Go Go.Conc Go.Proofs
open Bool renaming true->J,false->q9
open Go renaming Value->o5,Operand->su,invoke->atT,Next->T7
open Go.Extern.BytealgIndex renaming index->ayd,maxLen->aDa
open Go.Instr renaming sliceAt->K0,typeAssert->avG
open Go.IntKind renaming i64->xy,u32->aun
open Go.Proofs.Tryz renaming prog->pv,results126->aCD,results221->aAN,results208->auC,func219->aAO,results195->aCE,results165->aCF,results161->aCG,results115->aAP,results117->aAQ,results76->avB
open List renaming drop_eq_getElem_cons->atQ,take_add_one->atC,cons_append->avK,dropLast_cons_of_ne_nil->ayc,append_assoc->auN,range->atG,length->av2,getElem?_eq_getElem->Q4,mem_cons->B4,take_left'->axA,take_append_drop->axu,drop_drop->awb,length_map->atJ,getElem_mem->N0,append_nil->auI,map_append->auu,drop_length->axB
open Nat renaming lt_or_ge->vy
open Option renaming none->o0,some->C,map_map->awJ,isSome_none->axN,getD_none->ayb,getD_some->auS
open UInt8 renaming toNat_inj->avu
def dK:List UInt8->Option (List UInt8×List UInt8)
 | []=>o0
 | [_]=>o0
 |x::y::l=>if x=46/\y=46 then C ([],l)else(dK (y::l)).map λp=>(x::p.1,p.2)
def gl(l:List UInt8):Option (Int×Int):=match dK l with
 |some (a,b)=>match dP a,dP b with
  |some m,C n=>if m=n then o0 else C (m,n)
  |_,_=>o0
 |none=>(dP l).map λn=>(n,n)
section
variable{main:Bool}{ai:Type}{S:Sys ai}{s:ai}{h:ae}
def apk:bz pv 126=J:=O
def apl{l:List UInt8}(hl:l.length<=90000):bo pv main S 126 #[au l] s h λR h' z=>R=s/\h.ar h'/\∃q,z=.tuple #[gk q,.bool (gl l).isSome]/\∀p,gl l=C p->q=p:=by
 refine bL (args:=[au l]) Tryz.func126 (by delta Tryz.f126;rfl) Tryz.ntmps126 Y O ?_;simp only[ah,seval];intro c2 h3 M e2;have W:=bU M e2;have D:=bw e2;refine du (I:=λk e d X t=>∃i:Nat,k=l.length- i/\i<=l.length/\e 0=au l/\e 2=aV c2 0/\e 4=.int .i64 i/\d=[]/\X=s/\t=h3/\dK l=(dK (l.drop i)).map λp=>(l.take i++p.1,p.2)) (λk e d X t hI=> ?_) (m:=l.length) ⟨0,Y,Y,atA,atA,atA,rfl,rfl,rfl,Y⟩;obtain⟨i,rfl,hi,e0,j,r,rfl,rfl,rfl,hd⟩:=hI;have u:e 0=.string ⟨⟨l⟩⟩:=e0;have E:xy.wrap ((i:Int)+1)=((i+1:Nat):Int):=by rw[cq U U];omega
 rcases vy (i+1) l.length with hc|hc
 .have t:l[i]? =C l[i]:=Y
  have hy:l[i+1]? =C l[i+1]:=Y
  have F:l.drop i=l[i]::l[i+1]::l.drop (i+2):=by rw[atQ U,atQ hc]
  have ad:l.drop (i+1)=l[i+1]::l.drop (i+2):=atQ hc;have ht:l.take (i+1)=l.take i++[l[i]]:=by rw[atC];simp[t]
  generalize l[i]=x at t F ht;generalize l[i+1]=y at hy F ad;have next:¬(x=46/\y=46)->dK l=(dK (l.drop (i+1))).map λp=>(l.take (i+1)++p.1,p.2):=λG=>by rw[hd,F,dK,if_neg G,ad,ht,awJ];congr 1;funext p;simp
  simp only[ah,seval,u,r,E,eH,decide_eq_true (U:((i+1:Nat):Int)<l.length),fq,t,fJ];refine⟨U,?_⟩;cases N:(((x.toNat:Nat):Int)==46)with
  |false=>
   have P:¬(x=46/\y=46):=λq=>by rw[q.1]at N;cases N
   simp only[ah,seval,r,E];exact⟨l.length- (i+1),U,i+1,rfl,U,e0,j,Y,next P⟩
  |true=>
   have a8:x=46:=avu.1 (by rw[beq_iff_eq]at N;rw[(atz:(46:UInt8).toNat=46)];omega);simp only[ah,seval,u,r,E,fq,hy,fJ];refine⟨U,?_⟩;cases Q:(((y.toNat:Nat):Int)==46)with
   |false=>
    have P:¬(x=46/\y=46):=λq=>by rw[q.2]at Q;cases Q
    simp only[ah,seval,r,E];exact⟨l.length- (i+1),U,i+1,rfl,U,e0,j,Y,next P⟩
   |true=>
    have ba:y=46:=avu.1 (by rw[beq_iff_eq]at Q;rw[(atz:(46:UInt8).toNat=46)];omega);have bb:dK l=C (l.take i,l.drop (i+2)):=by rw[hd,F,dK,if_pos ⟨a8,ba⟩];simp
    have w2:xy.wrap ((i:Int)+2)=((i+2:Nat):Int):=by rw[cq U U];omega
    have S1:∀{h:ae} [KK o5],al pv (K0 9 (.string ⟨⟨l⟩⟩) o0 (C (.int .i64 i)) o0) h=KK.f (au (l.take i)) h:=λ{h _}=>uQ U;have S2:∀{h:ae} [KK o5],al pv (K0 9 (.string ⟨⟨l⟩⟩) (C (.int .i64 (i+2:Nat))) o0 o0) h=KK.f (au (l.drop (i+2))) h:=λ{h _}=>tx U;simp only[ah,seval,u,r,S1];refine cd FI (FK atB) λs4 h4 z ⟨w,A,B⟩=> ?_;subst w;subst A;subst B;simp only[ah,seval,dg,u,r,w2,S2];refine cd FI (FK atB) λgA h5 z ⟨w,A,B⟩=> ?_;subst w;subst A;subst B;have K:∀(L:Env) (h7:ae) (q:Int×Int) (b:Bool),L 2=aV c2 0->L 3=.bool b->b=(gl l).isSome->(∀p,gl l=C p->q=p)->h7=h5.put c2 ⟨.cells #[.int .i64 q.1,.int .i64 q.2] 63 (0,0),J⟩->dT pv Tryz.f126 (λR h' z=>R=gA/\h.ar h'/\∃q,z=.tuple #[gk q,.bool (gl l).isSome]/\∀p,gl l=C p->q=p) 65 L [] gA h7:=λL h7 q b x1 x2 x3 x4 x5=>FO aCD Y Y (c:=c2) (v:=.agg ⟨[.int .i64 q.1,.int .i64 q.2]⟩) x1 (ni O (bw x5) rfl) ⟨rfl,dM W M x5,q,by rw[x2,x3];rfl,x4⟩
    have hs:gl l=match dP (l.take i),dP (l.drop (i+2))with
     |some m,C n=>if m=n then o0 else C (m,n)
     |_,_=>o0:=by rw[gl,bb]
    cases bK:dP (l.take i)with
    |none=>rw[bK]at hs;simp only[ah,seval,dg,qY,gk,j,D,axN,ayb];intro h7 o;exact K _ h7 (0,_) _ (by simp[ak,j]) rfl (by rw[hs];rfl) (λp g=>by rw[hs]at g;cases g) o
    |some a=>
     cases bR:dP (l.drop (i+2))with
     |none=>rw[bK,bR]at hs;simp only[ah,seval,dg,qY,gk,j,D,axN,ayb,auS];intro h7 o;exact K _ h7 (a,0) _ (by simp[ak,j]) rfl (by rw[hs];rfl) (λp g=>by rw[hs]at g;cases g) o
     |some b=>
      rw[bK,bR]at hs;cases H:(a != b)with
      |false=>
       have:a=b:=by simpa using H
       simp only[ah,seval,dg,qY,gk,j,D,auS,H];intro h7 o;exact K _ h7 (a,b) _ (by simp[ak,j]) rfl (by rw[hs];simp[this]) (λp g=>by rw[hs]at g;simp[this]at g) o
      |true=>
       have:a≠b:=by simpa using H
       simp only[ah,seval,dg,qY,gk,j,D,auS,H];intro h7 o;exact K _ h7 (a,b) _ (by simp[ak,j]) rfl (by rw[hs];simp[this]) (λp g=>by rw[hs]at g;simpa[this]using g) o
 .have bs:dK (l.drop i)=o0:=by
   have:(l.drop i).length<=1:=atB
   match hh:l.drop i,this with
   | [],_=>rfl
   | [_],_=>rfl
   |_::_::_,q=>simp at q
  have hs:gl l=(dP l).map λn=>(n,n):=by rw[gl,hd,bs];rfl
  simp only[ah,seval,u,r,E,eH,decide_eq_false (U:¬((i+1:Nat):Int)<l.length)];refine cd FI (FK hl) λs4 h4 z ⟨w,A,B⟩=> ?_;subst w;subst A;subst B;simp only[ah,seval,dg,qY,gk,j,D];intro h7 o;refine FO aCD Y Y (c:=c2) (v:=.agg ⟨[.int .i64 ((dP l).getD 0),.int .i64 ((dP l).getD 0)]⟩) (by simp[ak,j]) (ni O (bw o) rfl) ⟨rfl,dM W M o,((dP l).getD 0,(dP l).getD 0),?_,λp g=> ?_⟩
  .rw[hs,Option.isSome_map];rfl
  .rw[hs]at g;cases G:dP l with
   |none=>rw[G]at g;cases g
   |some n=>rw[G]at g;cases g;rfl
end
def ik(l:List UInt8):Int:=match dK l with
 |some p=>p.1.length
 |none=> -1
def VV{x:UInt8}{l:List UInt8}(h:(x==46)=q9):dK (x::l)=(dK l).map λp=>(x::p.1,p.2):=by
 cases l with
 |nil=>rfl
 |cons y l=>rw[dK,if_neg];rintro⟨rfl,_⟩;cases h
def Ni{l:List UInt8}:dK (46::46::l)=C ([],l):=by rw[dK,if_pos ⟨rfl,rfl⟩]
def VW:∀{a l:List UInt8},(∀x∈a,(x==46)=q9)->dK (a++l)=(dK l).map λp=>(a++p.1,p.2)
 | [],l,_=>by simp
 |x::a,l,h=>by rw[avK,VV (h x Y),VW (a:=a) λy b=>h y (by simp[b]),awJ];congr 1
def VX:∀{l:List UInt8},l.length<=1->dK l=o0
 | [],_=>rfl
 | [_],_=>rfl
 |_::_::_,h=>by simp at h
def VY:∀{l:List UInt8},(∀x∈l.dropLast,(x==46)=q9)->dK l=o0
 | [],_=>rfl
 | [_],_=>rfl
 |x::y::l,h=>by rw[VV (h x Y),VY (l:=y::l) λz a=>h z (by rw[ayc Y];simp[a])];rfl
def apm:∀{l:List UInt8},l.length<=2->l≠[46,46]->dK l=o0
 | [],_,_=>rfl
 | [_],_,_=>rfl
 | [x,y],_,h=>by
  rw[dK];split
  .rename_i q;rw[q.1,q.2]at h;exact(h rfl).elim
  .rfl
 |_::_::_::_,h,_=>by simp at h
def Nj{l:List UInt8}{p:List UInt8×List UInt8}:dK l=C p->l=p.1++46::46::p.2:=by
 induction l generalizing p with
 |nil=>intro h;cases h
 |cons x l a=>
  intro h;cases l with
  |nil=>cases h
  |cons y l=>
   rw[dK]at h;split at h
   .rename_i q;cases h;rw[q.1,q.2];rfl
   .cases hd:dK (y::l)with
    |none=>rw[hd]at h;cases h
    |some q=>rw[hd]at h;cases h;rw[avK,<- a hd]
def se{l:List UInt8}(h:dK l=o0):ik l= -1:=by unfold ik;rw[h]
def pg{l:List UInt8}{p:List UInt8×List UInt8}(h:dK l=C p):ik l=p.1.length:=by unfold ik;rw[h]
def VZ{l:List UInt8}{i:Nat}(hi:i<=l.length)(h:dK l=(dK (l.drop i)).map λp=>(l.take i++p.1,p.2)):ik l=if ik (l.drop i)<0 then -1 else ik (l.drop i)+i:=by
 cases hd:dK (l.drop i)with
 |none=>rw[hd]at h;rw[se h,se hd];rfl
 |some p=>rw[hd]at h;rw[pg h,pg hd,if_neg U];simp;omega
def FT{l:List UInt8}{i:Nat}(h:dK l=(dK (l.drop i)).map λp=>(l.take i++p.1,p.2))(hi:i<l.length)(b:dK (l.drop i)=(dK (l.drop (i+1))).map λp=>(l[i]::p.1,p.2)):dK l=(dK (l.drop (i+1))).map λp=>(l.take (i+1)++p.1,p.2):=by
 have a:l.take (i+1)=l.take i++[l[i]]:=by rw[atC];simp[hi]
 rw[h,b,awJ,a];congr 1;funext p;simp only[Function.comp,auN,List.singleton_append]
def V0:∀l:List UInt8,(match(atG (l.length+1- 2)).find? λi=>(l.drop i).take 2==[46,46]with|some i=>(i:Int)|none=> -1)=ik l
 | []=>rfl
 | [x]=>rfl
 |x::y::l=>by
  have a:=V0 (y::l);have e:(x::y::l).length+1- 2=((y::l).length+1- 2)+1:=Y
  rw[e,List.range_succ_eq_map,List.find?_cons];have e0:(((x::y::l).drop 0).take 2==[46,46])=(x==46&&y==46):=Y
  rw[e0];cases c:(x==46&&y==46)with
  |true=>simp only[Bool.and_eq_true,beq_iff_eq]at c;rw[c.1,c.2,pg Ni];rfl
  |false=>
   have hd:dK (x::y::l)=(dK (y::l)).map λp=>(x::p.1,p.2):=by rw[dK,if_neg];rintro⟨rfl,rfl⟩;cases c
   rw[List.find?_map];have:((λi=>((x::y::l).drop i).take 2==[46,46])∘Nat.succ)=λi=>((y::l).drop i).take 2==[46,46]:=by funext i;simp
   rw[this];cases d:(atG ((y::l).length+1- 2)).find? λi=>((y::l).drop i).take 2==[46,46]with
   |none=>
    rw[d]at a;have a:(-1:Int)=ik (y::l):=a;cases b:dK (y::l)with
    |none=>rw[b]at hd;rw[se hd];rfl
    |some p=>rw[pg b]at a;omega
   |some i=>
    rw[d]at a;have a:(i:Int)=ik (y::l):=a;cases b:dK (y::l)with
    |none=>rw[se b]at a;omega
    |some p=>rw[b]at hd;rw[pg b]at a;rw[pg hd];show((i.succ:Nat):Int)=((x::p.1).length:Int);simp;omega
section
variable{h:ae}
def Nl{l:List UInt8}{m:Int}(o:l.length<=90000){ty:Nat}{f:Nat×Nat}{w:Bool}(g:h 5=C ⟨.cells #[.int .i64 m] ty f,w⟩)(p:2<=m){K:o5->ae->Prop}(k:K (.int .i64 (ik l)) h):@al pv _ (ayd #[au l,au [46,46]]) h ⟨K⟩:=by
 have d:h.cell? ⟨5,0,o0⟩=C (.int .i64 m):=by simp[ae.cell?,g]
 unfold al;rw[(atz:ayd #[au l,au [46,46]]=bind (pure (⟨⟨l⟩⟩:ByteArray)) (λa=>bind (pure (⟨⟨[46,46]⟩⟩:ByteArray)) _))];simp only[aJ,aR,aDa,globalAddr,mq,aoW];rw[BS,d];simp only[asInt,asIntOf,aJ,aR];have e:(decide ((⟨⟨[46,46]⟩⟩:ByteArray).size<2)||decide (((⟨⟨[46,46]⟩⟩:ByteArray).size:Int)>m))=q9:=by have:(⟨⟨[46,46]⟩⟩:ByteArray).size=2:=rfl;rw[this];simp;omega
 have j:¬((⟨⟨l⟩⟩:ByteArray).size>=2^32- 15):=by have:(⟨⟨l⟩⟩:ByteArray).size=l.length:=rfl;rw[this];omega
 rw[if_neg (by rw[e];exact Bool.false_ne_true),if_neg j];have n:(λi:Nat=>(⟨⟨l⟩⟩:ByteArray).extract i (i+(⟨⟨[46,46]⟩⟩:ByteArray).size)==(⟨⟨[46,46]⟩⟩:ByteArray))=λi:Nat=>(l.drop i).take 2==[46,46]:=by funext i;have:(⟨⟨[46,46]⟩⟩:ByteArray).size=2:=rfl;rw[this,lM,aoV,Nat.add_sub_cancel_left]
 rw[n,(atz:(⟨⟨l⟩⟩:ByteArray).size+1- (⟨⟨[46,46]⟩⟩:ByteArray).size=l.length+1- 2)];have b:=V0 l;cases c:(atG (l.length+1- 2)).find? λi=>(l.drop i).take 2==[46,46]with
 |none=>rw[c]at b;simp only[aR];rw[<- b]at k;exact k
 |some i=>rw[c]at b;simp only[aR];rw[<- b]at k;exact k
end
def gG(a b:UInt8):Int:=((a.toNat:Int)*16777619+b.toNat)%4294967296
def tF(x:Int):aun.wrap x=x%4294967296:=by simp[IntKind.wrap,IntKind.bits,IntKind.signed]
def V1:gG 46 46=771770520:=aty
section
variable{main:Bool}{ai:Type}{S:Sys ai}{s:ai}{h:ae}
def apn:bz pv 227=J:=O
def V2:bz pv 221=J:=O
def V3:bz pv 220=J:=O
def Bh{fb:aS}{kk:IntKind}{i:Int}[K:hA ai]:iw pv main S fb 5 199 (.int kk i) s h=K.f s h (.int .u32 (aun.wrap i)):=wH Tryz.underlying5 Tryz.underlying199
def apo{x y:su}[K:KK o5]:al pv (bN .and 3 x y (.int .i64 2) (.int .i64 1)) h=K.f (.int .i64 0) h:=O
def apq{x y:su}[K:KK o5]:al pv (bN .and 3 x y (.int .i64 1) (.int .i64 1)) h=K.f (.int .i64 1) h:=O
def apr:bo pv main S 227 #[au [46,46]] s h λD h' v=>D=s/\h'=h/\v=.tuple #[.int .u32 771770520,.int .u32 637696617]:=by
 refine bL (args:=[au [46,46]]) Tryz.func227 (by delta Tryz.f227;rfl) Tryz.ntmps227 Y O ?_;have w:[(46:UInt8),46][0]? =C 46:=rfl;have A:[(46:UInt8),46][1]? =C 46:=rfl;simp only[ah,seval];refine du (I:=λk e d n r=>∃i:Nat,k=2- i/\i<=2/\e 0=au [46,46]/\e 5=.int .i64 (i:Nat)/\e 4=.int .u32 (if i=0 then 0 else if i=1 then 46 else 771770520)/\d=[]/\n=s/\r=h) (λk e d n r o=> ?_) (m:=2) ⟨0,U,U,atA,atA,atA,rfl,rfl,rfl⟩;obtain⟨i,rfl,hi,e0,j,c,rfl,rfl,rfl⟩:=o;have p:e 0=.string ⟨⟨[46,46]⟩⟩:=e0;obtain rfl|rfl|rfl:i=0\/i=1\/i=2:=U
 .have j:e 5=.int .i64 0:=j;have c:e 4=.int .u32 0:=c;simp only[ah,seval,p,c,j,eH,fq,w,fJ,Bh,tF];exact⟨1,U,1,rfl,U,rfl,rfl,trivial⟩
 .have j:e 5=.int .i64 1:=j;have c:e 4=.int .u32 46:=c;simp only[ah,seval,p,c,j,eH,fq,A,fJ,Bh,tF];exact⟨0,U,2,rfl,U,rfl,rfl,trivial⟩
 .have j:e 5=.int .i64 2:=j;have c:e 4=.int .u32 771770520:=c;simp only[ah,seval,p,j,eH];refine du (I:=λk e d u t=>∃i:Nat,k=2- i/\i<=2/\e 4=.int .u32 771770520/\e 8=.int .i64 (if i=0 then 2 else if i=1 then 1 else 0)/\e 6=.int .u32 (if i=0 then 1 else if i=1 then 1 else 637696617)/\(i=0->e 7=.int .u32 16777619)/\(i=1->e 7=.int .u32 637696617)/\(i=2->∃z,e 7=.int .u32 z)/\d=[]/\u=n/\t=r) (λk e d u t o=> ?_) (m:=2) ⟨0,U,U,by simp[ak,c],atA,atA,λ_=>by simp[ak],U,U,rfl,rfl,rfl⟩;obtain⟨i,rfl,hi,c,g,l,E,B,F,rfl,rfl,rfl⟩:=o;obtain rfl|rfl|rfl:i=0\/i=1\/i=2:=U
  .have g:e 8=.int .i64 2:=g;have l:e 6=.int .u32 1:=l;have sh:∀{x y:su} {h:ae} [K:KK o5],al pv (bN .shr 3 x y (.int .i64 2) (.int .u64 1)) h=K.f (.int .i64 1) h:=λ{x y h K}=>yP (a:=2) (b:=1) rfl;simp only[ah,seval,c,g,l,E rfl,apo,sh,tF];exact⟨1,U,1,rfl,U,rfl,rfl,λq=>U,λ_=>trivial,λq=>U,trivial⟩
  .have g:e 8=.int .i64 1:=g;have l:e 6=.int .u32 1:=l;have sh:∀{x y:su} {h:ae} [K:KK o5],al pv (bN .shr 3 x y (.int .i64 1) (.int .u64 1)) h=K.f (.int .i64 0) h:=λ{x y h K}=>yP (a:=1) (b:=1) rfl;simp only[ah,seval,c,g,l,B rfl,apq,sh,tF];exact⟨0,U,2,rfl,U,rfl,rfl,λq=>U,λq=>U,λ_=>⟨_,rfl⟩,trivial⟩
  .have g:e 8=.int .i64 0:=g;have l:e 6=.int .u32 637696617:=l;simp only[ah,seval,c,g,l];exact gT Tryz.results227 Y Y ⟨rfl,rfl,atA⟩
def V4(n:Nat)(c:n<=99000):Pure pv main S 220 #[.int .i64 n] (.int .i64 ((n+16)/8:Nat)):=by
 intro s h;refine bL (args:=[.int .i64 n]) Tryz.func220 (by delta Tryz.f220;rfl) Tryz.ntmps220 Y O ?_;have a:xy.wrap ((n:Int)+16)=((n+16:Nat):Int):=by rw[cq U U];omega
 have q:∀{x y:su} {h:ae} [K:KK o5],al pv (bN .quo 3 x y (.int .i64 (n+16:Nat)) (.int .i64 8)) h=K.f (.int .i64 ((n+16)/8:Nat)) h:=λ{x y h K}=>A5 (b:=8) rfl rfl U;simp only[ah,seval,a,q];exact bu Tryz.results220 Y ⟨rfl,rfl,atA⟩
def V5{l:List UInt8}: -1<=ik l/\ik l<=l.length:=by
 cases hd:dK l with
 |none=>rw[se hd];omega
 |some p=>have:=congrArg av2 (Nj hd);rw[pg hd];simp at this;omega
def FU{l:List UInt8}{j:Nat}(a:j+1<l.length)(h:¬(l[j]=46/\l[j+1]=46)):dK (l.drop j)=(dK (l.drop (j+1))).map λp=>(l[j]::p.1,p.2):=by rw[atQ (U:j<l.length),atQ a,dK,if_neg h]
def FV{l:List UInt8}{j:Nat}(a:j+1<l.length)(h1:l[j]=46)(b:l[j+1]=46):dK (l.drop j)=C ([],l.drop (j+2)):=by rw[atQ (U:j<l.length),atQ a,h1,b,Ni]
def aps:∀{l:List UInt8} (h:2<=l.length),l.take 2=[l[0],l[1]]
 |x::y::l,_=>rfl
def Nn{l:List UInt8}{j:Nat}(h:j+1<l.length):(l.drop j).take 2=[l[j],l[j+1]]:=by rw[atQ (U:j<l.length),atQ h];rfl
def apt(a b c:UInt8):(((gG a b*16777619)%4294967296+(c.toNat:Int))%4294967296- (637696617*(a.toNat:Int))%4294967296)%4294967296=gG b c:=by have:=a.toNat_lt;have:=b.toNat_lt;have:=c.toNat_lt;unfold gG;omega
def V6{l:List UInt8}(h2:2<=l.length)(hl:l.length<=90000):bo pv main S 221 #[au l,au [46,46]] s h λs' h' v=>s'=s/\h'=h/\v=.int .i64 (ik l):=by
 refine bL (args:=[au l,au [46,46]]) Tryz.func221 (by delta Tryz.f221;rfl) Tryz.ntmps221 Y O ?_;simp only[ah,seval];refine cd apn apr λs2 L z ⟨B,o,q3⟩=> ?_;subst B;subst o;subst q3;simp only[ah,seval,dg,eH];have ag:l[0]? =C l[0]:=Y
 have az:l[1]? =C l[1]:=Y
 have a6:dK l=(dK (l.drop 0)).map λp=>(l.take 0++p.1,p.2):=Y
 have A:∀b:UInt8,((b.toNat:Nat):Int)%4294967296=b.toNat:=λb=>by have:=b.toNat_lt;omega
 refine du (I:=λk e d D M=>∃i:Nat,k=2- i/\i<=2/\e 0=au l/\e 1=au [46,46]/\e 5=.int .u32 771770520/\e 6=.int .u32 637696617/\e 7=.int .i64 2/\e 9=.int .i64 (i:Nat)/\e 8=.int .u32 (if i=0 then 0 else if i=1 then(l[0].toNat:Int)else gG l[0] l[1])/\d=[]/\D=s2/\M=L) (λk e d D M E=> ?_) (m:=2) ⟨0,U,U,atA,atA,atA,atA,atA,atA,atA,rfl,rfl,rfl⟩;obtain⟨i,rfl,hi,e0,w,r,x,n,c,a,rfl,rfl,rfl⟩:=E;have g:e 0=.string ⟨⟨l⟩⟩:=e0;have y:e 1=.string ⟨⟨[46,46]⟩⟩:=w;obtain rfl|rfl|rfl:i=0\/i=1\/i=2:=U
 .have c:e 9=.int .i64 0:=c;have a:e 8=.int .u32 0:=a;simp only[ah,seval,g,n,a,c,fq,ag,fJ,Bh,tF,A];exact⟨1,U,1,rfl,U,w,r,x,rfl,by simp[A],trivial⟩
 .have c:e 9=.int .i64 1:=c;have a:e 8=.int .u32 l[0].toNat:=a;simp only[ah,seval,g,n,a,c,fq,az,fJ,Bh,tF,A];exact⟨0,U,2,rfl,U,w,r,x,rfl,by simp[gG],trivial⟩
 have c:e 9=.int .i64 2:=c;have a:e 8=.int .u32 (gG l[0] l[1]):=a;have N:∀{h:ae} [KK o5],al pv (K0 9 (.string ⟨⟨l⟩⟩) o0 (C (.int .i64 2)) o0) h=KK.f (au (l.take 2)) h:=λ{h _}=>uQ (b:=2) U;have P:l.take 2=[l[0],l[1]]:=aps h2;by_cases t:l[0]=46/\l[1]=46
 .have F:(gG l[0] l[1]==771770520)=J:=by rw[t.1,t.2,V1];rfl
  have es:([l[0],l[1]]==[46,46])=J:=by rw[t.1,t.2];rfl
  simp only[ah,seval,g,y,r,n,a,c,F,N,P,gg,es];exact bu aAN Y ⟨rfl,rfl,by have:=FV (l:=l) (j:=0) U t.1 t.2;rw[List.drop_zero]at this;rw[pg this];simp[ak]⟩
 have es:([l[0],l[1]]==[46,46])=q9:=by rw[beq_eq_false_iff_ne];intro q;injection q with B o;injection o with o _;exact t ⟨B,o⟩
 have bK:=FT a6 U (FU (l:=l) (j:=0) U t);cases F:(gG l[0] l[1]==771770520)
 all_goals
  simp only[ah,seval,g,y,r,n,a,c,F,N,P,gg,es];refine du (I:=λk e d X Q=>∃(j:Nat) (hj:j+1<=l.length),k=l.length- j/\1<=j/\e 0=au l/\e 1=au [46,46]/\e 5=.int .u32 771770520/\e 6=.int .u32 637696617/\e 7=.int .i64 2/\e 10=.int .i64 (j+1:Nat)/\(∀bm:j- 1<l.length,e 8=.int .u32 (gG l[j- 1] l[j]))/\d=[]/\X=D/\Q=M/\dK l=(dK (l.drop j)).map λp=>(l.take j++p.1,p.2)) (λk e d X Q E=> ?_) (m:=l.length- 1) ⟨1,U,rfl,U,by simp[ak,e0],by simp[ak,w],by simp[ak,r],by simp[ak,x],by simp[ak,n],atA,λ_=>by simp[ak,a],rfl,rfl,rfl,bK⟩;clear e0 w r x n a c g y;obtain⟨j,hj,rfl,bn,e0,w,r,x,n,G,a,rfl,rfl,rfl,hd⟩:=E;have g:e 0=.string ⟨⟨l⟩⟩:=e0;have y:e 1=.string ⟨⟨[46,46]⟩⟩:=w;have a:=a U;rcases vy (j+1) l.length with hc|hc
  .have xa:l[j- 1]? =C l[j- 1]:=Q4 U;have gK:l[j+1]? =C l[j+1]:=Y
   have R:=apt l[j- 1] l[j] l[j+1];have w1:xy.wrap (((j+1:Nat):Int)- 2)=((j- 1:Nat):Int):=by rw[cq U U];omega
   have w2:xy.wrap (((j+1:Nat):Int)+1)=((j+2:Nat):Int):=by rw[cq U U];omega
   have w3:xy.wrap (((j+2:Nat):Int)- 2)=((j:Nat):Int):=by rw[cq U U];omega
   have W:∀{h:ae} [KK o5],al pv (K0 9 (.string ⟨⟨l⟩⟩) (C (.int .i64 (j:Nat))) (C (.int .i64 (j+2:Nat))) o0) h=KK.f (au [l[j],l[j+1]]) h:=λ{h _}=>by rw[yO U U,(U:j+2- j=2),Nn hc]
   simp only[ah,seval,g,a,G,eH,decide_eq_true (U:((j+1:Nat):Int)<l.length),fq,gK,fJ];refine⟨U,?_⟩;simp only[ah,seval,Bh,tF,A,g,x,n,G,w1,fq,xa,fJ];refine⟨U,?_⟩;by_cases u:l[j]=46/\l[j+1]=46
   .have H:(gG l[j] l[j+1]==771770520)=J:=by rw[u.1,u.2,V1];rfl
    have K:([l[j],l[j+1]]==[46,46])=J:=by rw[u.1,u.2];rfl
    simp only[ah,seval,tF,A,R,g,y,r,n,w2,w3,H,W,gg,K];exact bu aAN Y ⟨rfl,rfl,by have L:=FV hc u.1 u.2;rw[L]at hd;rw[pg hd];simp[ak];omega⟩
   .have K:([l[j],l[j+1]]==[46,46])=q9:=by rw[beq_eq_false_iff_ne];intro q;injection q with B o;injection o with o _;exact u ⟨B,o⟩
    have ba:=FT hd U (FU hc u);cases H:(gG l[j] l[j+1]==771770520)<;>simp only[ah,seval,tF,A,R,g,y,r,n,w2,w3,H,W,gg,K]<;>exact⟨l.length- (j+1),U,j+1,U,rfl,U,x,rfl,λ_=>rfl,ba⟩
  .have bp:j+1=l.length:=U
   simp only[ah,seval,g,G,eH,decide_eq_false (U:¬((j+1:Nat):Int)<l.length)];have:dK (l.drop j)=o0:=VX atB;exact bu aAN Y ⟨rfl,rfl,by rw[se (by rw[hd,this];rfl)];simp[ak]⟩
end
section
variable{main:Bool}{ai:Type}{S:Sys ai}{s:ai}{h:ae}
def apu{l:List UInt8}(hl:l.length<=90000)(ht:oH h):bo pv main S 208 #[au l,au [46,46]] s h λs' h' v=>s'=s/\h'=h/\v=.int .i64 (ik l):=by
 refine bL (args:=[au l,au [46,46]]) Tryz.func208 (by delta Tryz.f208;rfl) Tryz.ntmps208 Y O ?_;obtain⟨m,ty,f,w,g⟩:=ht;simp only[ah,seval,eH,gg];by_cases bd:l=[46,46]
 .have e:([46,46]==l)=J:=by rw[bd];rfl
  simp only[ah,seval,e];exact bu auC Y ⟨rfl,rfl,by rw[bd,pg Ni];simp[ak]⟩
 have e:([46,46]==l)=q9:=by rw[beq_eq_false_iff_ne];exactλq=>bd q.symm
 simp only[ah,seval,e];by_cases h2:l.length<=2
 .simp only[ah,seval,eH,decide_eq_true (U:(2:Int)>=l.length)];exact bu auC Y ⟨rfl,rfl,by rw[se (apm h2 bd)];simp[ak]⟩
 have b6:[(46:UInt8),46][0]? =C 46:=rfl;have b8:[(46:UInt8),46][1]? =C 46:=rfl;have w1:xy.wrap ((l.length:Int)- 2)=((l.length- 2:Nat):Int):=by rw[cq U U];omega
 have w2:xy.wrap (((l.length- 2:Nat):Int)+1)=((l.length- 1:Nat):Int):=by rw[cq U U];omega
 have de:dK l=(dK (l.drop 0)).map λp=>(l.take 0++p.1,p.2):=Y
 simp only[ah,seval,eH,decide_eq_false (U:¬(2:Int)>=l.length),g];by_cases bk:2<=m/\l.length<=64
 .simp only[ah,seval,decide_eq_true bk.1,eH,decide_eq_true (U:(l.length:Int)<=64)];refine ej.native (K:=⟨_⟩) aAO O O O (x:=ayd) O ?_;refine Nl hl g bk.1 ?_;simp only[ah,seval];exact bu auC Y ⟨rfl,rfl,atA⟩
 cases R:decide (2<=m)
 rotate_left
 have eh:¬(l.length:Int)<=64:=λq=>bk ⟨by simpa using R,U⟩;simp only[ah,seval,eH,decide_eq_false eh,fq,b6,b8,fJ,w1,w2]
 rotate_left
 simp only[ah,seval,eH,fq,b6,b8,fJ,w1,w2]
 all_goals
  refine du (I:=λk e d sx F=>∃i c:Nat,k=l.length- i/\i<=l.length/\c<=i/\e 0=au l/\e 1=au [46,46]/\e 5=.int .i64 2/\e 6=.int .u8 (46:UInt8).toNat/\e 7=.int .u8 (46:UInt8).toNat/\e 8=.int .i64 (i:Nat)/\e 9=.int .i64 (l.length- 1:Nat)/\e 10=.int .i64 (c:Nat)/\d=[]/\sx=s/\F=h/\dK l=(dK (l.drop i)).map λp=>(l.take i++p.1,p.2)) (λk e d sx F hI=> ?_) (m:=l.length) ⟨0,0,U,U,U,atA,atA,atA,atA,atA,atA,atA,atA,rfl,rfl,rfl,de⟩;obtain⟨i,c,rfl,hi,et,e0,e1,G,Q,H,e8,B,ca,rfl,rfl,rfl,hd⟩:=hI;have n:e 0=.string ⟨⟨l⟩⟩:=e0;have A:e 1=.string ⟨⟨[46,46]⟩⟩:=e1;rcases vy i (l.length- 1)with hc|hc
  .have F:l[i]? =C l[i]:=Q4 U;cases az:((l[i].toNat:Int) != 46)
   .have a6:l[i]=46:=avu.1 (by
     have:(l[i].toNat:Int)=46:=by simpa using az
     rw[(atz:(46:UInt8).toNat=46)];omega)
    simp only[ah,seval,n,Q,e8,B,decide_eq_true (U:((i:Nat):Int)<(l.length- 1:Nat)),fq,F,fJ,az];refine⟨U,?_⟩;have L:i+1<l.length:=U
    have W:=hd;have ek:c<=i/\i<=i:=U
    have xj:l[i+1]? =C l[i+1]:=Q4 L;have v3:xy.wrap ((i:Int)+1)=((i+1:Nat):Int):=by rw[cq U U];omega
    have v4:xy.wrap ((i:Int)+2)=((i+2:Nat):Int):=by rw[cq U U];omega
    have v5:xy.wrap ((c:Int)+1)=((c+1:Nat):Int):=by rw[cq U U];omega
    have S3:∀{h:ae} [KK o5],al pv (K0 9 (.string ⟨⟨l⟩⟩) (C (.int .i64 (i:Nat))) (C (.int .i64 (i+2:Nat))) o0) h=KK.f (au [l[i],l[i+1]]) h:=λ{h _}=>by rw[yO U U,(U:i+2- i=2),Nn L]
    cases D:((l[i+1].toNat:Int)==46)
    rotate_left
    .have M:l[i+1]=46:=avu.1 (by rw[beq_iff_eq]at D;rw[(atz:(46:UInt8).toNat=46)];omega);have bm:([l[i],l[i+1]]==[46,46])=J:=by rw[a6,M];rfl
     simp only[ah,seval,n,A,G,H,e8,v3,v4,xj,fJ,D,S3,gg,bm];refine⟨U,?_⟩;exact bu auC Y ⟨rfl,rfl,by have h3:=FV L a6 M;rw[h3]at W;rw[pg W];simp[ak];omega⟩
    have M:¬(l[i]=46/\l[i+1]=46):=λq=>by rw[q.2]at D;cases D
    have N:=FT W U (FU L M);have S4:∀{h:ae} [KK o5],al pv (K0 9 (.string ⟨⟨l⟩⟩) (C (.int .i64 (i+1:Nat))) o0 o0) h=KK.f (au (l.drop (i+1))) h:=λ{h _}=>tx U;simp only[ah,seval,G,H,e8,ca,g,v3,v5,xj,fJ,D,R];refine⟨U,?_⟩;have P:=VZ (l:=l) (i:=i+1) U N;have ds:=V5 (l:=l.drop (i+1));have dt:(l.drop (i+1)).length=l.length- (i+1):=Y
    first
    | (
      have hm:2<=m:=by simpa using R
      have E:decide (2>m)=q9:=atB
      refine ev V3 (V4 (i+1) U _ _) ?_;cases u:decide (((c+1:Nat):Int)>(((i+1+16)/8:Nat):Int))
      .simp only[ah,seval,n,A,G,Q,H,B,g,E,u];exact⟨l.length- (i+1),U,i+1,c+1,rfl,U,U,rfl,rfl,N⟩
      simp only[ah,seval,n,A,u,S4];refine ej.native (K:=⟨_⟩) aAO O O O (x:=ayd) O ?_;refine Nl U g hm ?_;by_cases t:ik (l.drop (i+1))<0
      .simp only[ah,seval,decide_eq_false (U:¬ik (l.drop (i+1))>=0)];exact bu auC Y ⟨rfl,rfl,by rw[P,if_pos t];simp[ak]⟩
      .have v9:xy.wrap (ik (l.drop (i+1))+((i+1:Nat):Int))=ik (l.drop (i+1))+((i+1:Nat):Int):=cq U U;simp only[ah,seval,decide_eq_true (U:ik (l.drop (i+1))>=0),v9];exact bu auC Y ⟨rfl,rfl,by rw[P,if_neg t];simp[ak]⟩)
    | (
      have E:decide (2>m)=J:=by have q:=of_decide_eq_false R;exact decide_eq_true U
      have sh:∀{x y:su} {h:ae} [K:KK o5],al pv (bN .shr 3 x y (.int .i64 (i+1:Nat)) (.int .u64 4)) h=K.f (.int .i64 ((i+1)/2^4:Nat)) h:=λ{x y h K}=>yP (a:=i+1) (b:=4) rfl;have X:xy.wrap (4+(((i+1)/2^4:Nat):Int))=((4+(i+1)/2^4:Nat):Int):=by rw[cq U U];omega
      cases u:decide (((c+1:Nat):Int)>=((4+(i+1)/2^4:Nat):Int))
      .simp only[ah,seval,n,A,G,Q,H,B,E,sh,X,u];exact⟨l.length- (i+1),U,i+1,c+1,rfl,U,U,rfl,rfl,N⟩
      cases ab:decide (((i+1:Nat):Int)<(l.length- 1:Nat))
      .simp only[ah,seval,n,A,G,Q,H,B,E,sh,X,u,ab];exact⟨l.length- (i+1),U,i+1,c+1,rfl,U,U,rfl,rfl,N⟩
      simp only[ah,seval,n,A,B,E,sh,X,u,ab,S4];have dx:=of_decide_eq_true ab;refine cd V2 (V6 U U) λs2 h3 z ⟨q1,q2,q3⟩=> ?_;subst q1;subst q2;subst q3;by_cases t:ik (l.drop (i+1))<0
      .simp only[ah,seval,decide_eq_true t];exact bu auC Y ⟨rfl,rfl,by rw[P,if_pos t];simp[ak]⟩
      .have v9:xy.wrap (((i+1:Nat):Int)+ik (l.drop (i+1)))=((i+1:Nat):Int)+ik (l.drop (i+1)):=cq U U;simp only[ah,seval,decide_eq_false t,v9];exact bu auC Y ⟨rfl,rfl,by rw[P,if_neg t];simp[ak];omega⟩)
   .have cb:(l[i]==46)=q9:=by rw[beq_eq_false_iff_ne];intro q;rw[q]at az;simp at az
    have v1:xy.wrap ((i:Int)+1)=((i+1:Nat):Int):=by rw[cq U U];omega
    have S1:∀{h:ae} [KK o5],al pv (K0 9 (.string ⟨⟨l⟩⟩) (C (.int .i64 (i+1:Nat))) (C (.int .i64 (l.length- 1:Nat))) o0) h=KK.f (au ((l.drop (i+1)).take (l.length- 1- (i+1)))) h:=λ{h _}=>yO U U;simp only[ah,seval,n,Q,e8,B,decide_eq_true (U:((i:Nat):Int)<(l.length- 1:Nat)),fq,F,fJ,az,v1,S1];refine⟨U,ev MD (MF _ 46 _ _) ?_⟩;have dS:(l.drop i).dropLast=l[i]::(l.drop (i+1)).take (l.length- 1- (i+1)):=by rw[atQ (U:i<l.length),ayc (by intro q;have:=congrArg av2 q;simp at this;omega),List.dropLast_eq_take];congr 2;simp;omega
    cases hf:nV 46 ((l.drop (i+1)).take (l.length- 1- (i+1)))with
    |none=>
     have hI:mj 46 ((l.drop (i+1)).take (l.length- 1- (i+1)))= -1:=by rw[mj,hf]
     simp only[ah,seval,hI];have ea:dK (l.drop i)=o0:=VY λx F=>by
      rw[dS]at F;rcases B4.1 F with r|r
      .rw[r];exact cb
      .exact Fs.1 hf x r
     exact bu auC Y ⟨rfl,rfl,by rw[se (by rw[hd,ea];rfl)];simp[ak]⟩
    |some o=>
     obtain⟨a,b,bt,ho,ec⟩:=Ft hf;have hI:mj 46 ((l.drop (i+1)).take (l.length- 1- (i+1)))=(o:Int):=by rw[mj,hf]
     have eu:o+1<=l.length- 1- (i+1):=by have:=congrArg av2 bt;simp at this;omega
     obtain⟨j,cc⟩:∃j,j=i+1+o:=⟨_,rfl⟩;have L:j+1<l.length:=U
     have v6:xy.wrap ((o:Int)+1)=((o+1:Nat):Int):=by rw[cq U U];omega
     have v7:xy.wrap ((i:Int)+((o+1:Nat):Int))=((j:Nat):Int):=by rw[cq U U];omega
     have ee:l.drop (i+1)=a++l.drop j:=by
      have e1:a=(l.drop (i+1)).take o:=by have:=congrArg (List.take o) bt;rw[List.take_take,(U:min o (l.length- 1- (i+1))=o),axA ho]at this;exact this.symm
      have h6:=(axu o (l.drop (i+1))).symm;rw[awb]at h6;rw[e1,cc];exact h6
     have a6:l[j]=46:=by have:=congrArg (·[o]?) bt;rw[List.getElem?_take_of_lt U,List.getElem?_drop,List.getElem?_append_right U]at this;simp only[(U:o- a.length=0),List.getElem?_cons_zero]at this;rw[<- cc,Q4 U]at this;exact Option.some.inj this
     have W:dK l=(dK (l.drop j)).map λp=>(l.take j++p.1,p.2):=by
      have e2:l.drop i=(l[i]::a)++l.drop j:=by rw[atQ (U:i<l.length),ee];rfl
      have e3:l.take j=l.take i++(l[i]::a):=by have:=axu i l;rw[e2]at this;have h5:=congrArg (List.take j) this;rw[<- auN,axA atB]at h5;exact h5.symm
      rw[hd,e2,VW (a:=l[i]::a) (λx F=>by
       rcases B4.1 F with r|r
       .rw[r];exact cb
       .exact ec x r),awJ,e3]
      congr 1;funext p;simp
     have ek:c<=j/\i<=j:=U
     simp only[ah,seval,hI,decide_eq_false (U:¬((o:Nat):Int)<0),v6,v7,n,e8];have xj:l[j+1]? =C l[j+1]:=Q4 L;have v3:xy.wrap ((j:Int)+1)=((j+1:Nat):Int):=by rw[cq U U];omega
     have v4:xy.wrap ((j:Int)+2)=((j+2:Nat):Int):=by rw[cq U U];omega
     have v5:xy.wrap ((c:Int)+1)=((c+1:Nat):Int):=by rw[cq U U];omega
     have S3:∀{h:ae} [KK o5],al pv (K0 9 (.string ⟨⟨l⟩⟩) (C (.int .i64 (j:Nat))) (C (.int .i64 (j+2:Nat))) o0) h=KK.f (au [l[j],l[j+1]]) h:=λ{h _}=>by rw[yO U U,(U:j+2- j=2),Nn L]
     cases D:((l[j+1].toNat:Int)==46)
     rotate_left
     .have M:l[j+1]=46:=avu.1 (by rw[beq_iff_eq]at D;rw[(atz:(46:UInt8).toNat=46)];omega);have bm:([l[j],l[j+1]]==[46,46])=J:=by rw[a6,M];rfl
      simp only[ah,seval,n,A,G,H,v3,v4,fq,xj,fJ,D,S3,gg,bm];refine⟨U,?_⟩;exact bu auC Y ⟨rfl,rfl,by have h3:=FV L a6 M;rw[h3]at W;rw[pg W];simp[ak];omega⟩
     have M:¬(l[j]=46/\l[j+1]=46):=λq=>by rw[q.2]at D;cases D
     have N:=FT W U (FU L M);have S4:∀{h:ae} [KK o5],al pv (K0 9 (.string ⟨⟨l⟩⟩) (C (.int .i64 (j+1:Nat))) o0 o0) h=KK.f (au (l.drop (j+1))) h:=λ{h _}=>tx U;simp only[ah,seval,G,H,ca,g,v3,v5,fq,xj,fJ,D,R];refine⟨U,?_⟩;have P:=VZ (l:=l) (i:=j+1) U N;have ds:=V5 (l:=l.drop (j+1));have dt:(l.drop (j+1)).length=l.length- (j+1):=Y
     first
     | (
       have hm:2<=m:=by simpa using R
       have E:decide (2>m)=q9:=atB
       refine ev V3 (V4 (j+1) U _ _) ?_;cases u:decide (((c+1:Nat):Int)>(((j+1+16)/8:Nat):Int))
       .simp only[ah,seval,n,A,G,Q,H,B,g,E,u];exact⟨l.length- (j+1),U,j+1,c+1,rfl,U,U,rfl,rfl,N⟩
       simp only[ah,seval,n,A,u,S4];refine ej.native (K:=⟨_⟩) aAO O O O (x:=ayd) O ?_;refine Nl U g hm ?_;by_cases t:ik (l.drop (j+1))<0
       .simp only[ah,seval,decide_eq_false (U:¬ik (l.drop (j+1))>=0)];exact bu auC Y ⟨rfl,rfl,by rw[P,if_pos t];simp[ak]⟩
       .have v9:xy.wrap (ik (l.drop (j+1))+((j+1:Nat):Int))=ik (l.drop (j+1))+((j+1:Nat):Int):=cq U U;simp only[ah,seval,decide_eq_true (U:ik (l.drop (j+1))>=0),v9];exact bu auC Y ⟨rfl,rfl,by rw[P,if_neg t];simp[ak]⟩)
     | (
       have E:decide (2>m)=J:=by have q:=of_decide_eq_false R;exact decide_eq_true U
       have sh:∀{x y:su} {h:ae} [K:KK o5],al pv (bN .shr 3 x y (.int .i64 (j+1:Nat)) (.int .u64 4)) h=K.f (.int .i64 ((j+1)/2^4:Nat)) h:=λ{x y h K}=>yP (a:=j+1) (b:=4) rfl;have X:xy.wrap (4+(((j+1)/2^4:Nat):Int))=((4+(j+1)/2^4:Nat):Int):=by rw[cq U U];omega
       cases u:decide (((c+1:Nat):Int)>=((4+(j+1)/2^4:Nat):Int))
       .simp only[ah,seval,n,A,G,Q,H,B,E,sh,X,u];exact⟨l.length- (j+1),U,j+1,c+1,rfl,U,U,rfl,rfl,N⟩
       cases ab:decide (((j+1:Nat):Int)<(l.length- 1:Nat))
       .simp only[ah,seval,n,A,G,Q,H,B,E,sh,X,u,ab];exact⟨l.length- (j+1),U,j+1,c+1,rfl,U,U,rfl,rfl,N⟩
       simp only[ah,seval,n,A,B,E,sh,X,u,ab,S4];have dx:=of_decide_eq_true ab;refine cd V2 (V6 U U) λs2 h3 z ⟨q1,q2,q3⟩=> ?_;subst q1;subst q2;subst q3;by_cases t:ik (l.drop (j+1))<0
       .simp only[ah,seval,decide_eq_true t];exact bu auC Y ⟨rfl,rfl,by rw[P,if_pos t];simp[ak]⟩
       .have v9:xy.wrap (((j+1:Nat):Int)+ik (l.drop (j+1)))=((j+1:Nat):Int)+ik (l.drop (j+1)):=cq U U;simp only[ah,seval,decide_eq_false t,v9];exact bu auC Y ⟨rfl,rfl,by rw[P,if_neg t];simp[ak];omega⟩)
  .have gG:dK (l.drop i)=o0:=VX atB;simp only[ah,seval,e8,B,decide_eq_false (U:¬((i:Nat):Int)<(l.length- 1:Nat))];exact bu auC Y ⟨rfl,rfl,by rw[se (by rw[hd,gG];rfl)];simp[ak]⟩
end
section
variable{main:Bool}{ai:Type}{S:Sys ai}{s:ai}{h:ae}
def yZ(l:List UInt8):o5:=match dK l with
 |none=>.tuple #[au l,au [],.bool q9]
 |some p=>.tuple #[au p.1,au p.2,.bool J]
def apv{l:List UInt8}(d:l.length<=90000)(e:oH h):bo pv main S 195 #[au l,au [46,46]] s h λo h' v=>o=s/\h.ar h'/\v=yZ l:=by
 refine bL (args:=[au l,au [46,46]]) Tryz.func195 (by delta Tryz.f195;rfl) Tryz.ntmps195 Y O ?_;simp only[ah,seval];refine cd U9 (apu d e) λw r v ⟨g,i,j⟩=> ?_;subst g;subst i;subst j;cases hd:dK l with
 |none=>rw[se hd];simp only[ah,seval];exact tC aCE Y Y Y ⟨rfl,.cO _,by simp[ak,yZ,hd]⟩
 |some p=>
  rw[pg hd];have c:=Nj hd;obtain⟨a,b⟩:=p;simp only at c ⊢;have x:l.length=a.length+b.length+2:=by rw[c];simp;omega
  have u:xy.wrap ((a.length:Int)+2)=((a.length+2:Nat):Int):=by rw[cq U U];omega
  have k:∀{h:ae} [K:KK o5],al pv (K0 9 (.string ⟨⟨l⟩⟩) o0 (C (.int .i64 a.length)) o0) h=K.f (au a) h:=λ{h K}=>by rw[uQ U,c,axA rfl]
  have m:∀{h:ae} [K:KK o5],al pv (K0 9 (.string ⟨⟨l⟩⟩) (C (.int .i64 (a.length+2:Nat))) o0 o0) h=K.f (au b) h:=λ{h K}=>by
   rw[tx U];have:l.drop (a.length+2)=b:=by rw[c,<- awb,List.drop_left' rfl];rfl
   rw[this]
  simp only[ah,seval,decide_eq_true (U:((a.length:Nat):Int)>=0),fI];intro t;refine kv eR O O ?_ t
  repeat refine gF (λh1 le=>by simp only[ah,seval,cJ,k,m,eH,u];exact⟨λ_ _ q=>q,rfl⟩) ?_
  rw[jN];intro r n;simp only[ah,seval];exact tC aCE Y Y Y ⟨rfl,n,by simp[ak,yZ,hd]⟩
def apw{l:List UInt8}(b:l.length<=90000)(c:oH h):bo pv main S 165 #[au l,au [46,46]] s h λf h' v=>f=s/\h.ar h'/\v=yZ l:=by
 refine bL (args:=[au l,au [46,46]]) Tryz.func165 (by delta Tryz.f165;rfl) Tryz.ntmps165 Y O ?_;simp only[ah,seval];refine cd aoX (apv b c) λg i v ⟨d,a,e⟩=> ?_;subst d;subst e;unfold yZ;cases hd:dK l with
 |none=>simp only[ah,seval,dg];exact tC aCF Y Y Y ⟨rfl,a,atA⟩
 |some p=>simp only[ah,seval,dg];exact tC aCF Y Y Y ⟨rfl,a,atA⟩
def tB.yes{b:Bool}{v:o5}(q:tB b v)(h:b=J):v=.nilIface:=by
 rcases q with⟨_,e⟩|⟨e,_⟩
 .exact e
 .rw[h]at e;cases e
def tB.no{b:Bool}{v:o5}(q:tB b v)(h:b=q9):∃t w,v=.iface t w:=by
 rcases q with⟨e,_⟩|⟨_,e⟩
 .rw[h]at e;cases e
 .exact e
def apx{l:List UInt8}(N:l.length<=90000)(h5:oH h)(G:pf h):bo pv main S 118 #[au l] s h λI h' v=>I=s/\h.ar h'/\∃q aA,v=.tuple #[gk q,aA]/\tB (gl l).isSome aA/\∀p,gl l=C p->q=p:=by
 refine bL (args:=[au l]) Tryz.func118 (by delta Tryz.f118;rfl) Tryz.ntmps118 Y O ?_;simp only[ah,seval];intro c2 h2 P X;have o:=bU P X;have g2:=bw X;refine cd aoY (apw N (h5.le o)) λQ h4 v ⟨i,j,u⟩=> ?_;subst i;subst u;unfold yZ;have x:∀{K B:ae} {a b:Int} {e:Env} {H:ai},h.ar K->B=K.put c2 ⟨.cells ⟨[.int .i64 a,.int .i64 b]⟩ 63 (0,0),J⟩->e 2=aV c2 0->H=Q->tB (gl l).isSome (e 3)->(∀p,gl l=C p->(a,b)=p)->dT pv Tryz.f118 (λI h' v=>I=Q/\h.ar h'/\∃q aA,v=.tuple #[gk q,aA]/\tB (gl l).isSome aA/\∀p,gl l=C p->q=p) 48 e [] H B:=by intro K B a b e H le g ee es i q2;subst es;have g7:=bw g;have ag:h.ar B:=dM le P g;exact FO Tryz.results118 Y Y (c:=c2) (v:=.agg ⟨[.int .i64 a,.int .i64 b]⟩) ee (ni O g7 rfl) ⟨rfl,ag,(a,b),e 3,rfl,i,q2⟩
 cases hd:dK l with
 |none=>
  have d:gl l=(dP l).map λn=>(n,n):=by unfold gl;rw[hd]
  simp only[ah,seval,dg];refine cd Fy (FM N (G.le (o.ay j))) λgA az v ⟨i,r,aA,u,k⟩=> ?_;subst i;subst u;have z:=r _ _ (j _ _ g2);cases y:dP l with
  |none=>rw[y]at k d;obtain⟨t,w,rfl⟩:=k.no rfl;simp only[ah,seval,dg,wK,qY,z,gk,ayb];intro A g;exact x (o.ay (j.ay r)) g atA rfl (.inr ⟨by rw[d];rfl,t,w,atA⟩) (λp q=>by rw[d]at q;cases q)
  |some n=>rw[y]at k d;obtain rfl:=k.yes rfl;simp only[ah,seval,dg,sc,qY,z,gk,auS];intro A g;exact x (o.ay (j.ay r)) g atA rfl (.inl ⟨by rw[d];rfl,atA⟩) (λp q=>by rw[d]at q;cases q;rfl)
 |some p=>
  obtain⟨a,b⟩:=p;have el:=Nj hd;have bm:l.length=a.length+b.length+2:=by rw[el];simp;omega
  have d:gl l=match dP a,dP b with
   |some m,C n=>if m=n then o0 else C (m,n)
   |_,_=>o0:=by unfold gl;rw[hd];try rfl
  simp only[ah,seval,dg];refine cd Fy (FM (l:=a) U (G.le (o.ay j))) λgA az v ⟨i,r,aA,u,k⟩=> ?_;subst i;subst u;have z:=r _ _ (j _ _ g2);cases y:dP a with
  |none=>rw[y]at k d;obtain⟨t,w,rfl⟩:=k.no rfl;simp only[ah,seval,dg,wK,qY,z,gk,ayb];intro A g;exact x (o.ay (j.ay r)) g atA rfl (.inr ⟨by rw[d];rfl,t,w,atA⟩) (λp q=>by rw[d]at q;cases q)
  |some m=>
   rw[y]at k d;obtain rfl:=k.yes rfl;simp only[ah,seval,dg,sc,auS];refine cd Fy (FM (l:=b) U (G.le (o.ay (j.ay r)))) λs6 h6 v ⟨i,R,bh,u,D⟩=> ?_;subst i;subst u;have L:=R _ _ z;have E:=o.ay (j.ay (r.ay R));cases W:dP b with
   |none=>rw[W]at D d;obtain⟨t,w,rfl⟩:=D.no rfl;simp only[ah,seval,dg,Vw,qY,L,gk,ayb];intro A g;exact x E g atA rfl (.inr ⟨by rw[d];rfl,t,w,atA⟩) (λp q=>by rw[d]at q;cases q)
   |some n=>
    rw[W]at D d;obtain rfl:=D.yes rfl;by_cases F:m=n
    .have M:(m==n)=J:=by rw[F];simp
     obtain⟨et,aA,q,f,w,g3⟩:=G.le E;have d:gl l=o0:=by rw[d];simp[F]
     simp only[ah,seval,dg,MH,M,g3,qY,L,gk,auS];intro A g;exact x E g atA rfl (.inr ⟨by rw[d];rfl,et,aA,atA⟩) (λp q=>by rw[d]at q;cases q)
    .have M:(m==n)=q9:=by simp[F]
     have d:gl l=C (m,n):=by rw[d];simp[F]
     simp only[ah,seval,dg,MH,M,qY,L,gk,auS];intro A g;exact x E g atA rfl (.inl ⟨by rw[d];rfl,atA⟩) (λp q=>by rw[d]at q;cases q;rfl)
def apy{v:o5}{l:List (List UInt8)}{m:List UInt8}(B:fW h v l)(H:l.length<=90001):bo pv main S 161 #[v,au m] s h λF h' z=>F=s/\h'=h/\∃i:Int,z=.int .i64 i/\(0<=i↔m∈l):=by
 refine bL (args:=[v,au m]) Tryz.func161 (by delta Tryz.f161;rfl) Tryz.ntmps161 Y O ?_;obtain⟨b,o,n,c,rfl,p,hb⟩:=B;simp only[atJ]at p;subst p;simp only[ah,seval];refine du (I:=λk e d r y=>∃i:Nat,k=l.length- i/\i<=l.length/\e 0=.slice b l.length c/\e 1=au m/\e 7=.int .i64 l.length/\e 8=.int .i64 i/\d=[]/\r=s/\y=h/\m∉l.take i) (λk e d r y D=> ?_) (m:=l.length) ⟨0,Y,Y,atA,atA,atA,atA,rfl,rfl,rfl,Y⟩;obtain⟨i,rfl,hi,e0,G,j,a,rfl,rfl,rfl,g⟩:=D;have t:e 1=.string ⟨⟨m⟩⟩:=G;rcases vy i l.length with hc|hc
 .obtain⟨K,rfl,arr,q,f,w,u,E⟩:=hb.resolve_left U;have A:arr[o+i]? =C (.string ⟨⟨l[i]⟩⟩):=by simpa using E i [au l[i]] (by simp[hc]) 0 _ rfl
  have bd:decide ((i:Int)<l.length)=J:=atB
  cases ne:(m==l[i])with
  |true=>simp only[ah,seval,e0,t,j,a,bd,u,A,gg,ne];exact bu aCG Y ⟨rfl,rfl,i,atA,λ_=>by rw[beq_iff_eq.1 ne];exact N0 hc,λ_=>by omega⟩
  |false=>
   simp only[ah,seval,e0,t,j,a,bd,u,A,gg,ne];refine⟨l.length- (i+1),U,i+1,rfl,U,by simp[cq (x:=(i:Int)+1) U U],λq=> ?_⟩;rw[atC]at q;simp only[Q4 hc,Option.toList_some,List.mem_append,List.mem_singleton]at q;rcases q with q|q
   .exact g q
   .exact(beq_eq_false_iff_ne.1 ne) q
 .have:i=l.length:=U
  subst this;rw[List.take_length]at g;simp only[ah,seval,j,a,decide_eq_false (U:¬((l.length:Nat):Int)<l.length)];exact bu aCG Y ⟨rfl,rfl,-1,atA,λq=>by omega,λq=>(g q).elim⟩
def apz{v:o5}{l:List (List UInt8)}{m:List UInt8}(a:fW h v l)(d:l.length<=90001):bo pv main S 114 #[v,au m] s h λk h' z=>k=s/\h'=h/\z=.bool (decide (m∈l)):=by refine bL (args:=[v,au m]) Tryz.func114 (by delta Tryz.f114;rfl) Tryz.ntmps114 Y O ?_;obtain⟨b,o,n,c,aA,_⟩:=id a;rw[aA]at a ⊢;simp only[ah,seval];refine cd aom (apy a d) λp q z ⟨e,f,i,g,j⟩=> ?_;subst e;subst f;subst g;simp only[ah,seval];refine bu Tryz.results114 Y ⟨rfl,rfl,?_⟩;have:decide (i>=0)=decide (m∈l):=decide_eq_decide.2 j;simp[ak,this]
end
section
variable{main:Bool}{ai:Type}{S:Sys ai}{s:ai}{h:ae}
def No{v:o5}{l:List (List UInt8)}{k0:Nat}(hv:fW h v l)(hl:l.length<=90000)(hf:∀f∈l,f.length<=90000)(h3:pf h):bo pv main S 115 #[v,.int .i64 k0,dO 116 []] s h λs' h' z=>s'=s/\h.ar h'/\∃a n c aA,z=.tuple #[.slice a n c,aA]/\(∀A,a=C A->h A.block=o0)/\((l.length=k0/\aA=.nilIface/\∃ns,dZ dP l=C ns/\iZ h' (.slice a n c) ns)\/((l.length≠k0\/dZ dP l=o0)/\(∃t w,aA=.iface t w)/\a=o0)):=by
 refine bL (args:=[v,.int .i64 k0,dO 116 []]) Tryz.func115 (by delta Tryz.f115;rfl) Tryz.ntmps115 Y O ?_;obtain⟨b,o,n,c,rfl,P,hb⟩:=hv;simp only[atJ]at P;subst P;by_cases hk:l.length=k0
 rotate_left
 .have e1:(((l.length:Nat):Int) != ((k0:Nat):Int))=J:=atB
  obtain⟨et,ew,q,f,w,g3⟩:=h3;have B:∀H,h.ar H->H 3=_:=λH le=>le _ _ g3;simp only[ah,seval,e1,fI];intro t;refine kv eR O O ?_ t
  repeat refine gF (λh1 le=>by simp only[ah,seval,cJ,le,B];exact⟨λ_ _ q=>q,rfl⟩) ?_
  rw[jN];intro h2 bk;simp only[ah,seval];exact gT aAP Y Y ⟨rfl,bk,o0,0,0,.iface et ew,atA,λA q=>(by cases q),.inr ⟨.inl hk,⟨_,_,rfl⟩,rfl⟩⟩
 subst hk;simp only[ah,seval,(Y:(((l.length:Nat):Int) != ((l.length:Nat):Int))=q9)];refine du (I:=λk e d Q K=>∃i L M ns,k=l.length- i/\i<=l.length/\e 2=dO 116 []/\e 18=.slice b l.length c/\e 19=.int .i64 l.length/\e 20=.int .i64 i/\e 8=L/\d=[]/\Q=s/\h.ar K/\(∀d,M=C d->h d=o0)/\eB K L 3 1 (ns.map FP) M/\ns.length=i/\dZ dP l=(dZ dP (l.drop i)).map (ns++ ·)) (λk e d Q K hI=> ?_) (m:=l.length) ⟨0,.slice o0 0 0,o0,[],Y,Y,atA,atA,atA,atA,atA,rfl,rfl,.cO _,Y,.nil,rfl,Y⟩;obtain⟨i,L,M,ns,rfl,hi,e2,R,D,E,W,rfl,rfl,j,F,q,bm,g⟩:=hI;obtain⟨a1,bK,c1,rfl⟩:=q.slice;rcases vy i l.length with hc|hc
 .obtain⟨mb,rfl,arr,q',f,w',hm,hr⟩:=hb.resolve_left U;have g1:arr[o+i]? =C (au l[i]):=by simpa using hr i [au l[i]] (by simp[hc]) 0 _ rfl
  have B:=j _ _ hm;have bd:decide ((i:Int)<l.length)=J:=atB
  have hd:l.drop i=l[i]::l.drop (i+1):=atQ hc;have X:=hf _ (N0 hc);generalize l[i]=x at g1 hd X;simp only[ah,seval,e2,R,D,E,B,g1,bd,mK,Fy,auI];refine(FM X (h3.le j)).mono λjA h4 z ⟨q1,G,aA,q3,p⟩=> ?_;subst q1;subst q3;cases u:dP x with
  |none=>rw[u]at p;obtain⟨t,w,rfl⟩:=p.no rfl;simp only[ah,seval,dg,wK];exact gT aAP Y Y ⟨rfl,j.ay G,o0,0,0,.iface t w,atA,λA q=>(by cases q),.inr ⟨.inr (by rw[g,hd];simp[dZ,u]),⟨_,_,rfl⟩,rfl⟩⟩
  |some m=>
   rw[u]at p;obtain rfl:=p.yes rfl;simp only[ah,seval,dg,sc,W,auS];refine VA λc3 h5 ab N=> ?_;have bt:=bU ab N;have g4:=bw N;simp only[ah,seval];refine pX (row:=FP m) Tryz.underlying44 fe VC eZ rfl aty aty aty (uV (h0:=h) (q.keep λd y _ hy=>G _ _ hy) ab N) rfl rfl atB (by rw[iX g4];rfl) λcm h6 b3 k1 k2 q5=> ?_;obtain⟨a2,bR,c2,rfl⟩:=q5.slice;simp only[ah,seval,E];have af:=j.ay (G.ay bt);refine⟨l.length- (i+1),U,i+1,.slice a2 bR c2,b3,ns++[m],rfl,U,by simp[e2],by simp[R],by simp[D],by simp[cq (x:=(i:Int)+1) U U],Y,λd y hd=>k1 _ _ (λe=>by have:=F d e;rw[this]at hd;cases hd) (af _ _ hd),λd hd=> ?_,by rw[auu];exact q5,by simp[bm],by rw[g,hd];simp only[dZ,u,awJ];congr 1;funext r;simp⟩;rcases k2 with r|⟨bG,r,b5⟩
   .exact F d (r▸hd)
   .rw[r]at hd;cases hd;exact fh af b5
 .have:i=l.length:=U
  subst this;rw[axB]at g;have g:dZ dP l=C ns:=by rw[g];simp[dZ]
  simp only[ah,seval,W,D,E,decide_eq_false (U:¬((l.length:Nat):Int)<l.length)];exact gT aAP Y Y ⟨rfl,j,a1,bK,c1,.nilIface,atA,λA aI=>q.fresh F A aI,.inl ⟨rfl,ns,g,q.at,q.ty⟩⟩
def apA{v:o5}{l:List (List UInt8)}{k0:Nat}(hv:fW h v l)(hl:l.length<=90000)(hf:∀f∈l,f.length<=90000)(h3:pf h)(h5:oH h):bo pv main S 117 #[v,.int .i64 k0,dO 118 []] s h λs' h' z=>s'=s/\h.ar h'/\∃a n c aA,z=.tuple #[.slice a n c,aA]/\(∀A,a=C A->h A.block=o0)/\((l.length=k0/\aA=.nilIface/\∃ns,dZ gl l=C ns/\jD h' (.slice a n c) ns)\/((l.length≠k0\/dZ gl l=o0)/\(∃t w,aA=.iface t w)/\a=o0)):=by
 refine bL (args:=[v,.int .i64 k0,dO 118 []]) Tryz.func117 (by delta Tryz.f117;rfl) Tryz.ntmps117 Y O ?_;obtain⟨b,o,n,c,rfl,R,hb⟩:=hv;simp only[atJ]at R;subst R;by_cases hk:l.length=k0
 rotate_left
 .have e1:(((l.length:Nat):Int) != ((k0:Nat):Int))=J:=atB
  obtain⟨et,ew,q,f,w,g3⟩:=h3;have D:∀L,h.ar L->L 3=_:=λL le=>le _ _ g3;simp only[ah,seval,e1,fI];intro t;refine kv eR O O ?_ t
  repeat refine gF (λh1 le=>by simp only[ah,seval,cJ,le,D];exact⟨λ_ _ q=>q,rfl⟩) ?_
  rw[jN];intro h2 bt;simp only[ah,seval];exact gT aAQ Y Y ⟨rfl,bt,o0,0,0,.iface et ew,atA,λA q=>(by cases q),.inr ⟨.inl hk,⟨_,_,rfl⟩,rfl⟩⟩
 subst hk;simp only[ah,seval,(Y:(((l.length:Nat):Int) != ((l.length:Nat):Int))=q9)];refine du (I:=λk e d W M=>∃i N P ns,k=l.length- i/\i<=l.length/\e 2=dO 118 []/\e 18=.slice b l.length c/\e 19=.int .i64 l.length/\e 20=.int .i64 i/\e 8=N/\d=[]/\W=s/\h.ar M/\(∀d,P=C d->h d=o0)/\eB M N 63 2 (ns.map Bf) P/\ns.length=i/\dZ gl l=(dZ gl (l.drop i)).map (ns++ ·)) (λk e d W M hI=> ?_) (m:=l.length) ⟨0,.slice o0 0 0,o0,[],Y,Y,atA,atA,atA,atA,atA,rfl,rfl,.cO _,Y,.nil,rfl,Y⟩;obtain⟨i,N,P,ns,rfl,hi,e2,X,E,F,e8,rfl,rfl,g,G,q,b3,j⟩:=hI;obtain⟨a1,bK,c1,rfl⟩:=q.slice;rcases vy i l.length with hc|hc
 .obtain⟨mb,rfl,arr,q',f,w',hm,hr⟩:=hb.resolve_left U;have g1:arr[o+i]? =C (au l[i]):=by simpa using hr i [au l[i]] (by simp[hc]) 0 _ rfl
  have D:=g _ _ hm;have bd:decide ((i:Int)<l.length)=J:=atB
  have hd:l.drop i=l[i]::l.drop (i+1):=atQ hc;have ad:=hf _ (N0 hc);generalize l[i]=x at g1 hd ad;simp only[ah,seval,e2,X,E,F,D,g1,bd,mK,aoZ,auI];refine(apx ad (h5.le g) (h3.le g)).mono λjA h4 z ⟨q1,H,p,aA,q3,B,b8⟩=> ?_;subst q1;subst q3;simp only[ah,seval,dg,gk];intro c6 h6 af e6;have b9:=bU af e6;have g6:=bw e6;simp only[ah,seval,g6];intro h7 e7;have K:=dM b9 af e7;have g7:=bw e7;cases u:gl x with
  |none=>rw[u]at B;obtain⟨t,w,rfl⟩:=B.no rfl;simp only[ah,seval,wK];exact gT aAQ Y Y ⟨rfl,g.ay (H.ay K),o0,0,0,.iface t w,atA,λA q=>(by cases q),.inr ⟨.inr (by rw[j,hd];simp[dZ,u]),⟨_,_,rfl⟩,rfl⟩⟩
  |some m=>
   rw[u]at B;obtain rfl:=B.yes rfl;obtain rfl:=b8 m u;simp only[ah,seval,sc,e8,g7];refine VB (p:=p) λc3 h5 ag Q=> ?_;have ca:=bU ag Q;have g4:=bw Q;simp only[ah,seval];refine pX (row:=Bf p) Tryz.underlying47 Nb VD Na rfl aty aty aty (uV (h0:=h) (q.keep λd y _ hy=>K _ _ (H _ _ hy)) ag Q) rfl rfl atB (by rw[iX g4];rfl) λea h8 cc k1 k2 q5=> ?_;obtain⟨a2,bR,c2,rfl⟩:=q5.slice;simp only[ah,seval,F];have a6:=g.ay (H.ay (K.ay ca));refine⟨l.length- (i+1),U,i+1,.slice a2 bR c2,cc,ns++[p],rfl,U,by simp[e2],by simp[X],by simp[E],by simp[cq (x:=(i:Int)+1) U U],Y,λd y hd=>k1 _ _ (λe=>by have:=G d e;rw[this]at hd;cases hd) (a6 _ _ hd),λd hd=> ?_,by rw[auu];exact q5,by simp[b3],by rw[j,hd];simp only[dZ,u,awJ];congr 1;funext r;simp⟩;rcases k2 with r|⟨bG,r,cl⟩
   .exact G d (r▸hd)
   .rw[r]at hd;cases hd;exact fh a6 cl
 .have:i=l.length:=U
  subst this;rw[axB]at j;have j:dZ gl l=C ns:=by rw[j];simp[dZ]
  simp only[ah,seval,e8,E,F,decide_eq_false (U:¬((l.length:Nat):Int)<l.length)];exact gT aAQ Y Y ⟨rfl,g,a1,bK,c1,.nilIface,atA,λA aI=>q.fresh G A aI,.inl ⟨rfl,ns,j,q.at,q.ty⟩⟩
end
section
variable{P:Program}{main:Bool}{ai:Type}{S:Sys ai}{b:aS}{e:Env}{d:List Deferred}{s:ai}{h:ae}{N:Env->List Deferred->ai->ae->Prop}
def Bi{dst:Option Nat}{a:su}{c pos:String}{ty:Nat}{es:Array Edge}{g:Option (Nat×Bool)}{v:o5}{f:FuncId}{as_:Array o5}(i:aA e a=v)(hi:∀Q,aH P (atT (.fn (.method c) #[]) #[v]) h Q=Q (.enter f as_) h)(hd:kS b ⟨dst,.call ⟨.invoke a c,#[],#[]⟩,ty,pos,es,g⟩=q9)
  (u:bo P main S f as_ s h λj h' v=>N (b7 e dst v) d j h'):bP P main S b ⟨dst,.call ⟨.invoke a c,#[],#[]⟩,ty,pos,es,g⟩ e d s h N:=by
 refine .inl ⟨hd,?_⟩;have k:execOp (aA e) ⟨dst,.call ⟨.invoke a c,#[],#[]⟩,ty,pos,es,g⟩=(do let d <- resolve (aA e) ⟨.invoke a c,#[],#[]⟩ ty;atT d.target d.args):=rfl;rw[k];simp only[resolve,aJ,aR,i];rw[show(#[v]++Array.map (aA e) #[]:Array o5)=#[v]by simp];exact(hi (tV P main S ⟨dst,.call ⟨.invoke a c,#[],#[]⟩,ty,pos,es,g⟩ e d s N)).mpr u
end
def jP:jE->Nat
 | .mG _ _=>1|.nk _=>2|.nm _=>3|.ground=>4|.nY _=>5|.nZ _=>6
section
variable{h:ae}
def apB{a:Array o5}{Q:T7->ae->Prop}:aH pv (atT (.fn (.method "nock/butt.rank") #[]) #[.iface 159 (.agg a)]) h Q=Q (.enter 251 #[.agg a]) h:=O
def V7{a:Array o5}{Q:T7->ae->Prop}:aH pv (atT (.fn (.method "nock/butt.rank") #[]) #[.iface 161 (.agg a)]) h Q=Q (.enter 252 #[.agg a]) h:=O
def V8{a:Array o5}{Q:T7->ae->Prop}:aH pv (atT (.fn (.method "nock/butt.rank") #[]) #[.iface 163 (.agg a)]) h Q=Q (.enter 253 #[.agg a]) h:=O
def apC{a:Array o5}{Q:T7->ae->Prop}:aH pv (atT (.fn (.method "nock/butt.rank") #[]) #[.iface 165 (.agg a)]) h Q=Q (.enter 120 #[.agg a]) h:=O
def V9{a:Array o5}{Q:T7->ae->Prop}:aH pv (atT (.fn (.method "nock/butt.rank") #[]) #[.iface 167 (.agg a)]) h Q=Q (.enter 254 #[.agg a]) h:=O
def Wa{a:Array o5}{Q:T7->ae->Prop}:aH pv (atT (.fn (.method "nock/butt.rank") #[]) #[.iface 169 (.agg a)]) h Q=Q (.enter 255 #[.agg a]) h:=O
end
section
variable{main:Bool}{ai:Type}{S:Sys ai}{s:ai}{h:ae}
def Np:bz pv 120=J:=O
def apD{a:Array o5}:bo pv main S 251 #[.agg a] s h λb h' v=>b=s/\h.ar h'/\v=.int .i64 1:=by refine bL (args:=[.agg a]) Tryz.func251 (by delta Tryz.f251;rfl) Tryz.ntmps251 Y O ?_;simp only[ah,seval];intro c h1 hc d;exact bu Tryz.results251 Y ⟨rfl,bU hc d,atA⟩
def Wb{a:Array o5}:bo pv main S 252 #[.agg a] s h λb h' v=>b=s/\h.ar h'/\v=.int .i64 2:=by refine bL (args:=[.agg a]) Tryz.func252 (by delta Tryz.f252;rfl) Tryz.ntmps252 Y O ?_;simp only[ah,seval];intro c h1 hc d;exact bu Tryz.results252 Y ⟨rfl,bU hc d,atA⟩
def Wc{a:Array o5}:bo pv main S 253 #[.agg a] s h λb h' v=>b=s/\h.ar h'/\v=.int .i64 3:=by refine bL (args:=[.agg a]) Tryz.func253 (by delta Tryz.f253;rfl) Tryz.ntmps253 Y O ?_;simp only[ah,seval];intro c h1 hc d;exact bu Tryz.results253 Y ⟨rfl,bU hc d,atA⟩
def FW{a:Array o5}:bo pv main S 120 #[.agg a] s h λb h' v=>b=s/\h.ar h'/\v=.int .i64 4:=by refine bL (args:=[.agg a]) Tryz.func120 (by delta Tryz.f120;rfl) Tryz.ntmps120 Y O ?_;simp only[ah,seval];intro c h1 hc d;exact bu Tryz.results120 Y ⟨rfl,bU hc d,atA⟩
def Wd{a:Array o5}:bo pv main S 254 #[.agg a] s h λb h' v=>b=s/\h.ar h'/\v=.int .i64 5:=by refine bL (args:=[.agg a]) Tryz.func254 (by delta Tryz.f254;rfl) Tryz.ntmps254 Y O ?_;simp only[ah,seval];intro c h1 hc d;exact bu Tryz.results254 Y ⟨rfl,bU hc d,atA⟩
def We{a:Array o5}:bo pv main S 255 #[.agg a] s h λb h' v=>b=s/\h.ar h'/\v=.int .i64 6:=by refine bL (args:=[.agg a]) Tryz.func255 (by delta Tryz.f255;rfl) Tryz.ntmps255 Y O ?_;simp only[ah,seval];intro c h1 hc d;exact bu Tryz.results255 Y ⟨rfl,bU hc d,atA⟩
def zb{x t u:Nat}{v z:o5}{fs:Array Field}{K:o5->ae->Prop}(b:pv.underlying u=C (.struct fs))(a:fw pv u=C z):@al pv _ (avG (.iface t v) x u J) h ⟨K⟩=K (if t=u then .tuple #[v,.bool J]else .tuple #[z,.bool q9]) h:=by
 simp only[al,avG,aJ,c0,b];by_cases e:t=u
 .simp only[e,if_true,aR]
 .simp only[e,if_false,if_true,aJ,kH,a,aR]
def pY{t:Nat}{v:o5}[K:KK o5]:al pv (avG (.iface t v) 153 159 J) h=K.f (if t=159 then .tuple #[v,.bool J]else .tuple #[.agg #[.int .i64 0,.int .i64 0],.bool q9]) h:=zb (K:=K.f) Tryz.underlying159 O
def Bj{t:Nat}{v:o5}[K:KK o5]:al pv (avG (.iface t v) 153 161 J) h=K.f (if t=161 then .tuple #[v,.bool J]else .tuple #[.agg #[.slice o0 0 0],.bool q9]) h:=zb (K:=K.f) Tryz.underlying161 O
def FX{t:Nat}{v:o5}[K:KK o5]:al pv (avG (.iface t v) 153 163 J) h=K.f (if t=163 then .tuple #[v,.bool J]else .tuple #[.agg #[.slice o0 0 0],.bool q9]) h:=zb (K:=K.f) Tryz.underlying163 O
def uX{t:Nat}{v:o5}[K:KK o5]:al pv (avG (.iface t v) 153 165 J) h=K.f (if t=165 then .tuple #[v,.bool J]else .tuple #[.agg #[],.bool q9]) h:=zb (K:=K.f) Tryz.underlying165 O
def zd{t:Nat}{v:o5}[K:KK o5]:al pv (avG (.iface t v) 153 167 J) h=K.f (if t=167 then .tuple #[v,.bool J]else .tuple #[.agg #[.string .empty,.int .i64 0,.int .i64 0,.int .i64 0],.bool q9]) h:=zb (K:=K.f) Tryz.underlying167 O
def Bl{t:Nat}{v:o5}[K:KK o5]:al pv (avG (.iface t v) 153 169 J) h=K.f (if t=169 then .tuple #[v,.bool J]else .tuple #[.agg #[.string .empty,.int .i64 0,.int .i64 0,.int .i64 0],.bool q9]) h:=zb (K:=K.f) Tryz.underlying169 O
def apE{v:o5}{l:jE}(q:wL h v l):∃f a,(∀Q,aH pv (atT (.fn (.method "nock/butt.rank") #[]) #[v]) h Q=Q (.enter f a) h)/\bo pv main S f a s h λd h' z=>d=s/\h.ar h'/\z=.int .i64 (jP l):=by
 cases l with
 |mG a b=>cases q;exact⟨_,_,λQ=>apB,apD⟩
 |nk e=>obtain⟨a,n,c,rfl,_⟩:=q;exact⟨_,_,λQ=>V7,Wb⟩
 |nm e=>obtain⟨a,n,c,rfl,_⟩:=q;exact⟨_,_,λQ=>V8,Wc⟩
 |ground=>cases q;exact⟨_,_,λQ=>apC,FW⟩
 |nY x=>cases q;exact⟨_,_,λQ=>V9,Wd⟩
 |nZ x=>cases q;exact⟨_,_,λQ=>Wa,We⟩
end
def jF:jE->Int->Bool
 | .mG _ _,k=>k==0
 | .ground,k=>decide (k>0)&&decide (k<4)
 | .nk _,k=>decide (k>0)&&decide (k<=2)
 | .nm _,k=>decide (k>0)&&decide (k<=3)
 | .nY _,k=>decide (k>=4)&&decide (k<=5)
 | .nZ _,k=>decide (k>=4)&&decide (k<=6)
section
variable{main:Bool}{ai:Type}{S:Sys ai}{s:ai}{h:ae}
def apF:bz pv 76=J:=O
def f165:(uL pv 165=J/\qR pv 165=#[])/\mh pv 165=0/\(cu pv 165).isSome=J:=⟨⟨O,O⟩,O,O⟩
def apG{fb:aS}{c:Nat}{x:dL}(a:h c=C x)[K:hA ai]:eX pv main S fb 165 (aV c 0) s h=K.f s h (.agg #[]):=by rw[ua (K:=K) a,zO (K:=⟨λv h=>K.f s h v⟩) (m:=0) O];rfl
def apH{t:Nat}{v:o5}{l:jE}{k:Int}(q:wL h (.iface t v) l):bo pv main S 76 #[.iface t v,.int .i64 k] s h λE h' z=>E=s/\h.ar h'/\z=.bool (jF l k):=by
 refine bL (args:=[.iface t v,.int .i64 k]) Tryz.func76 (by delta Tryz.f76;rfl) Tryz.ntmps76 Y O ?_;cases l with
 |mG a b=>cases q;simp only[ah,seval,pY,dg,bO];intro c h1 hc m;have u:=bw m;simp only[ah,seval,u];intro w o;exact bu avB Y ⟨rfl,dM (bU hc m) hc o,by simp[ak,jF]⟩
 |ground=>
  cases q;simp only[ah,seval,pY,uX,dg,f165];intro c h1 hc m;have u:=bw m;simp only[ah,seval,u,f165];intro w o;have F:=bw o;have y:=dM (bU hc m) hc o;by_cases d:k>0
  .have A:∀{fb:aS} [K:hA ai],eX pv main S fb 165 (aV c 0) s w=K.f s w (.agg #[]):=λ{fb K}=>apG F;simp only[ah,seval,decide_eq_true d,A];refine cd Np FW λfe p z ⟨g,j,i⟩=> ?_;subst g;subst i;simp only[ah,seval];exact bu avB Y ⟨rfl,y.ay j,by simp[ak,jF,d]⟩
  .simp only[ah,seval,decide_eq_false d];exact bu avB Y ⟨rfl,y,by simp[ak,jF,d]⟩
 |nk G=>
  obtain⟨a,n,c,e,B⟩:=q;cases e;simp only[ah,seval,pY,uX,zd,Bl,dg];by_cases d:k>0
  .simp only[ah,seval,decide_eq_true d];refine Bi (v:=.iface 161 (.agg #[.slice a n c])) (by simp[ak,aA]) (λQ=>V7) rfl (Wb.mono λfe p z ⟨g,j,i⟩=> ?_);subst g;subst i;simp only[ah,seval];exact bu avB Y ⟨rfl,j,by simp[ak,jF,d]⟩
  .simp only[ah,seval,decide_eq_false d];exact bu avB Y ⟨rfl,.cO _,by simp[ak,jF,d]⟩
 |nm G=>
  obtain⟨a,n,c,e,B⟩:=q;cases e;simp only[ah,seval,pY,uX,zd,Bl,dg];by_cases d:k>0
  .simp only[ah,seval,decide_eq_true d];refine Bi (v:=.iface 163 (.agg #[.slice a n c])) (by simp[ak,aA]) (λQ=>V8) rfl (Wc.mono λfe p z ⟨g,j,i⟩=> ?_);subst g;subst i;simp only[ah,seval];exact bu avB Y ⟨rfl,j,by simp[ak,jF,d]⟩
  .simp only[ah,seval,decide_eq_false d];exact bu avB Y ⟨rfl,.cO _,by simp[ak,jF,d]⟩
 |nY x=>
  cases q;simp only[ah,seval,pY,uX,zd,Bl,dg,Ng];refine cd Np FW λfe p z ⟨g,j,i⟩=> ?_;subst g;subst i;by_cases d:k>=4
  .simp only[ah,seval,decide_eq_true d];refine Bi (v:=.iface 167 x.v) (by simp[ak,aA]) (λQ=>V9) rfl (Wd.mono λD H z ⟨g,r,i⟩=> ?_);subst g;subst i;simp only[ah,seval];exact bu avB Y ⟨rfl,j.ay r,by simp[ak,jF,d]⟩
  .simp only[ah,seval,decide_eq_false d];exact bu avB Y ⟨rfl,j,by simp[ak,jF,d]⟩
 |nZ x=>
  cases q;simp only[ah,seval,pY,uX,zd,Bl,dg,Ng];refine cd Np FW λfe p z ⟨g,j,i⟩=> ?_;subst g;subst i;by_cases d:k>=4
  .simp only[ah,seval,decide_eq_true d];refine Bi (v:=.iface 169 x.v) (by simp[ak,aA]) (λQ=>Wa) rfl (We.mono λD H z ⟨g,r,i⟩=> ?_);subst g;subst i;simp only[ah,seval];exact bu avB Y ⟨rfl,j.ay r,by simp[ak,jF,d]⟩
  .simp only[ah,seval,decide_eq_false d];exact bu avB Y ⟨rfl,j,by simp[ak,jF,d]⟩
def Wf:bz pv 42=J:=O
def apI{v:o5}(c:∃a t,v=.iface t (.pointer a)):bo pv main S 42 #[.nilIface,v] s h λb h' z=>b=s/\h'=h/\z=.bool q9:=by refine bL (args:=[.nilIface,v]) Tryz.func42 (by delta Tryz.f42;rfl) Tryz.ntmps42 Y O ?_;simp only[ah,seval,MH];exact bu Tryz.results42 Y ⟨rfl,rfl,atA⟩
end
def fG:List UInt8->List (List UInt8)
 | []=>[]
 |x::l=>if x==10 then[10]::fG l else match fG l with|[]=>[[x]]|p::bc=>(x::p)::bc
def Wg{b:List UInt8}:∀{a:List UInt8},(∀x∈a,(x==10)=q9)->fG (a++10::b)=(a++[10])::fG b
 | [],_=>by simp[fG]
 |x::a,h=>by rw[avK,fG,h x Y,Wg (a:=a) λy c=>h y (by simp[c])];rfl
def Wh:∀{a:List UInt8},a≠[]->(∀x∈a,(x==10)=q9)->fG a=[a]
 | [],h,_=>(h rfl).elim
 | [x],_,h=>by rw[fG,h x Y];rfl
 |x::y::a,_,h=>by rw[fG,h x Y,Wh (a:=y::a) Y λz b=>h z (by simp[b])];rfl
section
variable{main:Bool}{ai:Type}{S:Sys ai}{s:ai}{h:ae}
def apJ:bz pv 111=J:=O
def apK:bz pv 73=J:=O
def apL{l:List UInt8}:bo pv main S 73 #[au l] s h λa h' v=>a=s/\∃c,h c=o0/\h'=h.put c ⟨.cells #[au l] 9 (0,0),J⟩/\v=dO 111 [aV c 0]:=by refine bL (args:=[au l]) Tryz.func73 (by delta Tryz.f73;rfl) Tryz.ntmps73 Y O ?_;simp only[ah,seval];intro c h1 hc b;exact bu Tryz.results73 Y ⟨rfl,c,hc,b,atA⟩
end
end
end Go.Nk
