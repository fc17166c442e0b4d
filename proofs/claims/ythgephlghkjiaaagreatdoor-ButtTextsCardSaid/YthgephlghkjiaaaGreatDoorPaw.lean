/- Part Paw of the proof of ButtTexts: lemmas. -/
import Derived.Test.YthgephlghkjiaaaGreatDoorPav
set_option maxRecDepth 100000
set_option maxHeartbeats 4000000
set_option linter.all false
namespace Go.Nk
noncomputable section
open Go Go.Conc Go.Proofs
open Bool renaming true->J,false->q9,false_or->awc,or_eq_true->auU,true_or->awd,false_ne_true->W3,and_eq_true->vh
open Go renaming Value->o5,Operand->su,Program->tb,Addr->vm,Oper->sa,Deferred->tc
open Go.Instr renaming sliceAt->K0,build->atW,buildSlice->atX,makeInterface->auW
open Go.IntKind renaming i64->xy
open Go.Proofs.Tryz renaming prog->pv,results193->aCw,results116->aAL,underlying44->aw7,underlying98->au4,results124->aCy,results43->aCA,results82->aCB,results83->aCC
open Go.Region renaming schedule->atM,binds->atV,wanted->R9
open Go.Value renaming cells->atN
open List renaming getElem_mem->N0,getElem?_append_left->avE,take_add_one->atC,take_length->N3,all_eq_true->G0,getElem?_eq_some_iff->F1,flatten_cons->azg,length_append->M3,length_cons->RF,getElem?_take_of_lt->azb,length_singleton->azc,flatten_append->aCx,mem_append->D3,mem_singleton->auJ,drop_eq_getElem_cons->atQ,map_append->auu,length_map->atJ,length_eq_zero_iff->aAM,range->atG,mem_range->au9,getElem?_eq_getElem->Q4,any_eq_true->au2,count_le_length->aya
open Nat renaming lt_or_ge->vy,zero_add->atI,succ_mul->awy,add_mul->avh,mul_le_mul_right->azP,add_zero->asg,blt->Kf,beq->td,ble_eq_true_of_le->aus,le_of_ble_eq_true->at4,eq_of_beq_eq_true->atP,le_refl->vr,lt_succ_self->awR
open Option renaming some->C,none->o0
def FL(m:Bool)(n:Nat):Int:=if m then -(n:Int)else n
def sd(m:Bool)(d:List UInt8):List UInt8:=if m then 45::d else d
def pf(h:ae):Prop:=∃t v q f w,h 3=C ⟨.cells #[.iface t v] q f,w⟩
def pf.le{h h':ae}(l:h.ar h')(t:pf h):pf h':=let⟨a,b,q,f,w,e⟩:=t;⟨a,b,q,f,w,l _ _ e⟩
def tB(b:Bool)(v:o5):Prop:=(b=J/\v=.nilIface)\/(b=q9/\∃t w,v=.iface t w)
section
variable{main:Bool}{ai:Type}{S:Sys ai}{s:ai}{h:ae}
def wK{x y:su}{u:Nat}{v:o5}[K:KK o5]:al pv (bN .neq 91 x y (.iface u v) .nilIface) h=K.f (.bool J) h:=let⟨_,e⟩:=Bb;aos e
def Vv{P:tb}{t:Nat}{ms:Array (String×TypeId)}{x y:su}(a:P.underlying t=C (.interface ms)){u:Nat}{v:o5}[K:KK o5]:al P (bN .eql t x y (.iface u v) .nilIface) h=K.f (.bool q9) h:=by have q:(do eqGuard .eql t x y (.iface u v) .nilIface;binOp .eql t (.iface u v) .nilIface:Sem o5)=(do pure (.bool (<- Op.equal t (.iface u v) .nilIface))):=rfl;unfold al bN;rw[q,aJ,Vd a,aR]
def Vw{x y:su}{u:Nat}{v:o5}[K:KK o5]:al pv (bN .eql 91 x y (.iface u v) .nilIface) h=K.f (.bool q9) h:=let⟨_,e⟩:=Bb;Vv e
def aoS{P:tb}{k:IntKind}{i:Int}[K:KK o5]:al P (Op.unary .neg (.int k i)) h=K.f (.int k (k.wrap (0- i))) h:=rfl
def aoT{m:Bool}{d:List UInt8}(hd:∀x∈d,jz x=J)(h1:1<=d.length)(h2:d.length<=9):bo pv main S 193 #[au (sd m d)] s h λN h' v=>N=s/\h.ar h'/\v=.tuple #[.int .i64 (FL m (ij d)),.nilIface]:=by
 refine bL (args:=[au (sd m d)]) Tryz.func193 (by delta Tryz.f193;rfl) Tryz.ntmps193 Y O ?_;have g:d[0]? =C d[0]:=Y
 have iK:=Fw.1 (hd d[0] (N0 _));have j:((d[0].toNat:Int)==45)=q9:=atB
 have u:((d[0].toNat:Int)==43)=q9:=atB
 generalize d[0]=x0 at g iK j u;have H:∀{h:ae} [KK o5],al pv (K0 9 (.string ⟨⟨45::d⟩⟩) (C (.int .i64 1)) o0 o0) h=KK.f (au d) h:=λ{h _}=>Mk (l:=45::d) Y;have w:(45::d)[0]? =C (45:UInt8):=rfl;have ag:(((45:UInt8).toNat:Int)==45)=J:=rfl;have K:∀i,i<=d.length->ij (d.take i)<10^i:=λi hi=>Fx hd i hi;cases E:m
 rotate_left
 simp only[ah,seval,sd,eH,decide_eq_true (U:(0:Int)<(d.length+1:Nat)),decide_eq_true (U:((d.length+1:Nat):Int)<19),fq,w,fJ,H,yV,decide_eq_false (U:¬(d.length:Int)<1)]
 rotate_left
 simp only[ah,seval,sd,eH,decide_eq_true (U:(0:Int)<d.length),decide_eq_true (U:(d.length:Int)<19),fq,g,fJ,j,u,yV]
 all_goals
  refine aot λc h1 P rest f hc F=> ?_;have y:=bU hc F;have Q:=bw F;simp only[ah,seval];refine du (I:=λk e z A G=>∃i:Nat,k=d.length- i/\i<=d.length/\e 5=au (sd m d)/\e 6=.int .i64 (ij (d.take i))/\e 47=dn c 0 d.length P/\e 48=.int .i64 d.length/\e 49=.int .i64 i/\z=[]/\A=s/\G=h1) (λk e z A G L=> ?_) (m:=d.length) ⟨0,Y,Y,by simp[ak,E,sd],by simp[ak,ij],atA,atA,atA,rfl,rfl,rfl⟩;obtain⟨i,rfl,hi,b,a,M,o,p,rfl,rfl,rfl⟩:=L;have B:=K i hi;have np:(10:Nat)^i<=10^9:=Nat.pow_le_pow_right U U;rcases vy i d.length with q|q
  .have bd:decide ((i:Int)<d.length)=J:=atB
   have a1:(⟨dR d++rest⟩:Array o5)[i]? =C (.int .u8 (d[i].toNat:Nat)):=by rw[List.getElem?_toArray,avE (by rw[yR];omega)];simp[dR,q]
   have D:=Fw.1 (hd d[i] (N0 _));have r:ij (d.take (i+1))=ij (d.take i)*10+(d[i].toNat- 48):=by
    have:d.take (i+1)=d.take i++[d[i]]:=by rw[atC];simp[q]
    rw[this,MI]
   generalize d[i]=x at a1 D r;generalize ij (d.take i)=n at B a r;have R:xy.wrap (((n:Nat):Int)*10)=((n*10:Nat):Int):=by rw[yU U U];omega
   have W:xy.wrap (((x.toNat- 48:Nat):Int))=((x.toNat- 48:Nat):Int):=cq U U;have X:xy.wrap (((n*10:Nat):Int)+((x.toNat- 48:Nat):Int))=((n*10+(x.toNat- 48):Nat):Int):=by rw[yU U U];omega
   simp only[ah,seval,a,M,o,p,bd,Q,a1,aov D.1,decide_eq_false (U:¬((x.toNat- 48:Nat):Int)>9),R,Ml,W,X];exact⟨d.length- (i+1),U,i+1,rfl,U,b,by rw[r],by simp[cq (x:=(i:Int)+1) U U]⟩
  .have:i=d.length:=U
   subst this;rw[N3]at a B;have w4:xy.wrap (0- ((ij d:Nat):Int))= -((ij d:Nat):Int):=by rw[yU U U];omega
   rw[E]at b
   first
   | (have t:e 5=.string ⟨⟨d⟩⟩:=b;simp only[ah,seval,t,a,o,p,decide_eq_false (U:¬((d.length:Nat):Int)<d.length),fq,g,fJ,j];exact gT aCw Y Y ⟨rfl,y,by simp[ak,FL]⟩)
   | (have t:e 5=.string ⟨⟨45::d⟩⟩:=b;simp only[ah,seval,t,a,o,p,decide_eq_false (U:¬((d.length:Nat):Int)<d.length),fq,w,fJ,aoS,w4];exact gT aCw Y Y ⟨rfl,y,by simp[ak,FL]⟩)
def aoU{m:Bool}{d:List UInt8}(hd:∀x∈d,jz x=J)(h1:1<=d.length)(a:d.length<=9):bo pv main S 164 #[au (sd m d)] s h λf h' v=>f=s/\h.ar h'/\v=.tuple #[.int .i64 (FL m (ij d)),.nilIface]:=by refine bL (args:=[au (sd m d)]) Tryz.func164 (by delta Tryz.f164;rfl) Tryz.ntmps164 Y O ?_;simp only[ah,seval];refine cd aou (aoT hd h1 a) λg a v ⟨b,c,e⟩=> ?_;subst b;subst e;simp only[ah,seval,dg,sc];exact gT Tryz.results164 Y Y ⟨rfl,c,atA⟩
def FM{l:List UInt8}(hl:l.length<=90000)(h3:pf h):bo pv main S 116 #[au l] s h λu h' v=>u=s/\h.ar h'/\∃aA,v=.tuple #[.int .i64 ((dP l).getD 0),aA]/\tB (dP l).isSome aA:=by
 refine bL (args:=[au l]) Tryz.func116 (by delta Tryz.f116;rfl) Tryz.ntmps116 Y O ?_;obtain⟨m,d,o,ag,B⟩:∃m d,l=sd m d/\(if rZ l [45]then l.drop [(45:UInt8)].length else l)=d/\dP l=nX m d:=by
  cases l with
  |nil=>exact⟨q9,[],rfl,rfl,by simp[dP,nX]⟩
  |cons x r=>
   by_cases i:x=45
   .subst i;exact⟨J,r,rfl,by simp[rZ],by simp[dP]⟩
   .exact⟨q9,x::r,rfl,by simp[rZ,i],by simp[dP,i]⟩
 have bm:d.length<=l.length:=by rw[o];cases m<;>simp[sd]
 simp only[ah,seval];refine ev an4 (aob l [45] _ _) ?_;rw[ag];obtain⟨R,aA,q,f,w,M⟩:=h3;have N:nX m d=o0->∀(e:Env) (h2:ae),h.ar h2->e 2=.int .i64 0->e 3=.iface R aA->dT pv Tryz.f116 (λu h' v=>u=s/\h.ar h'/\∃aA,v=.tuple #[.int .i64 ((dP l).getD 0),aA]/\tB (dP l).isSome aA) 30 e [] s h2:=λb e h2 le y2 y3=>gT aAL Y Y ⟨rfl,le,.iface R aA,by rw[y2,y3,B,b];rfl,.inr ⟨by rw[B,b];rfl,_,_,rfl⟩⟩
 simp only[ah,seval,eH];refine ev oX (oY _ _ _ _ _) ?_;cases hb:(decide ((1:Int)<=d.length)&&decide ((d.length:Int)<=9))with
 |false=>
  have b:nX m d=o0:=wJ (.inl λq=>by simp at hb;omega);simp only[ah,seval,yV,fI];intro t;have D:∀j,h.ar j->j 3=_:=λj le=>le _ _ M;refine kv eR O O ?_ t
  repeat refine gF (λh1 le=>by simp only[ah,seval,cJ,le,D];exact⟨λ_ _ q=>q,rfl⟩) ?_
  rw[jN];intro h2 a6;simp only[ah,seval];exact N b _ h2 a6 atA atA
 |true=>
 have n:1<=d.length/\d.length<=9:=by simp at hb;omega
 have F:d[0]? =C d[0]:=Y
 have W:d.head? =C d[0]:=by rw[List.head?_eq_getElem?];simp
 simp only[ah,seval];refine cd Um (Ut (cs:=AW) amB aty U) λgA h5 z ⟨r1,c,X,r3,r4⟩=> ?_;subst r1;subst r3;have ab:(X==[])=J↔∀x∈d,jz x=J:=by
  rw[r4,G0];constructor
  .intro q x i;rw[<- Vh];exact q x i
  .intro q x i;rw[Vh];exact q x i
 have D:∀j,h5.ar j->j 3=_:=λj le=>le _ _ (c _ _ M);have g5:=c _ _ M;cases g:(X==[])with
 |false=>
  have b:nX m d=o0:=wJ (.inr (.inl λq=>by rw[ab.2 q]at g;cases g));simp only[ah,seval,Aw,g,yV,fI];intro t;refine kv eR O O ?_ t
  repeat refine gF (λh1 le=>by simp only[ah,seval,cJ,le,D];exact⟨λ_ _ q=>q,rfl⟩) ?_
  rw[jN];intro A G;simp only[ah,seval];exact N b _ A (c.ay G) atA atA
 |true=>
 have H:=ab.1 g;have ok:¬(d.head? =C 48/\(1<d.length\/m=J))->∀(P:ai) (h2:ae),h.ar h2->bo pv main S 164 #[au l] P h2 λu h' v=>u=P/\h2.ar h'/\v=.tuple #[.int .i64 ((dP l).getD 0),.nilIface]:=λa P h2 _=>by rw[B,FJ n.1 n.2 H a,o];exact aoU H n.1 n.2
 have ad:¬(d.head? =C 48/\(1<d.length\/m=J))->(dP l).isSome=J:=λa=>by rw[B,FJ n.1 n.2 H a];rfl
 by_cases a:d[0]=48
 .have E:((d[0].toNat:Int)==48)=J:=by rw[a];rfl
  by_cases k:l=[48]
  .have Q:(l==[48])=J:=by rw[k];rfl
   have p:¬(d.head? =C 48/\(1<d.length\/m=J)):=λq=>by
    rw[o]at k;cases m with
    |false=>rw[show d=[48]from k]at q;simp at q
    |true=>cases k
   simp only[ah,seval,Aw,g,fq,F,fJ,E,Q];refine cd Vg (ok p _ _ c) λs6 A v ⟨I,K,L⟩=> ?_;subst I;subst L;simp only[ah,seval,dg];exact gT aAL Y Y ⟨rfl,c.ay K,.nilIface,atA,.inl ⟨ad p,rfl⟩⟩
  .have Q:(l==[48])=q9:=by rw[beq_eq_false_iff_ne];exact k
   have b:nX m d=o0:=wJ (.inr (.inr ⟨by rw[W,a],by
    cases m with
    |true=>exact .inr rfl
    |false=>
     left;rcases vy 1 d.length with q|q
     .exact q
     .have h1:d.length=1:=U
      obtain⟨y,rfl⟩:=List.length_eq_one_iff.1 h1;have:y=48:=a;rw[this]at o;exact(k o).elim⟩))
   simp only[ah,seval,Aw,g,fq,F,fJ,E,Q,fI];intro t;refine kv eR O O ?_ t
   repeat refine gF (λh1 le=>by simp only[ah,seval,cJ,le,D];exact⟨λ_ _ q=>q,rfl⟩) ?_
   rw[jN];intro A G;simp only[ah,seval];exact N b _ A (c.ay G) atA atA
 .have E:((d[0].toNat:Int)==48)=q9:=by rw[beq_eq_false_iff_ne];intro e;exact a (UInt8.toNat_inj.1 atB)
  have p:¬(d.head? =C 48/\(1<d.length\/m=J)):=λq=>by rw[W]at q;exact a (Option.some.inj q.1)
  simp only[ah,seval,Aw,g,fq,F,fJ,E];refine cd Vg (ok p _ _ c) λs6 A v ⟨I,K,L⟩=> ?_;subst I;subst L;simp only[ah,seval,dg];exact gT aAL Y Y ⟨rfl,c.ay K,.nilIface,atA,.inl ⟨ad p,rfl⟩⟩
end
def oH(h:ae):Prop:=∃m q f w,h 5=C ⟨.cells #[.int .i64 m] q f,w⟩
def oH.le{h h':ae}(l:h.ar h')(t:oH h):oH h':=let⟨m,q,f,w,e⟩:=t;⟨m,q,f,w,l _ _ e⟩
def aoV(a b:List UInt8):((⟨⟨a⟩⟩:ByteArray)==⟨⟨b⟩⟩)=(a==b):=by show((⟨a⟩:Array UInt8)==⟨b⟩)=(a==b);simp
section
variable{h:ae}
def aoW:(pv.globals.findIdx? (·.name== "internal/bytealg.MaxLen"))=C 5:=O
end
section
variable{main:Bool}{ai:Type}{S:Sys ai}{s:ai}{h:ae}
end
section
variable{P:tb}{fn:Func}{ai:Type}{n:Nat}{gQ:ai->ae->o5->Prop}{e:Env}{s:ai}{h:ae}
def tC{a b c:Nat}(d:fn.results=#[.tmp a,.tmp b,.tmp c])(f:a<n)(hb:b<n)(hc:c<n)(p:gQ s h (.tuple #[e a,e b,e c])):dT P fn gQ n e [] s h:=by simp only[dT,jU,results,d,aJ];simp[aR,f,hb,hc,Array.getD];exact p
def ni{t c:Nat}{arr:Array o5}{q:Nat}{f:Nat×Nat}{w:Bool}{vs:List o5}(a:wB P t=J)(g:h c=C ⟨.cells arr q f,w⟩)(b:lP 0 (rV P t) arr=C vs)(Q:o5->ae->Prop):aH P (loadVar t ⟨c,0,o0⟩) h Q=Q (.agg ⟨vs⟩) h:=by
 unfold wB at a;split at a
 .rename_i k hs;have e:rV P t=k:=by simp[rV,hs]
  rw[e]at b;rw[rF,hs];simp only[pB];rw[iX g,b]
 .cases a
def FN{t c:Nat}{arr:Array o5}{q:Nat}{f:Nat×Nat}{w:Bool}{v:o5}(a:yF P t=J)(g:h c=C ⟨.cells arr q f,w⟩)(b:arr[0]? =C v)(Q:o5->ae->Prop):aH P (loadVar t ⟨c,0,o0⟩) h Q=Q v h:=by
 unfold yF at a;split at a
 .rename_i hs;have d:h.cell? ⟨c,0,o0⟩=C v:=by simp[ae.cell?,g,b]
  rw[rF,hs];simp only[pB,d]
 .cases a
def FO{a b t c:Nat}{v:o5}(d:fn.results=#[.cell a t,.tmp b])(f:a<n)(hb:b<n)(g:e a=aV c 0)(i:∀Q:o5->ae->Prop,aH P (loadVar t ⟨c,0,o0⟩) h Q=Q v h)(p:gQ s h (.tuple #[v,e b])):dT P fn gQ n e [] s h:=by simp only[dT,jU,results,d];simp[aJ,aR,f,hb,g,asAddr,map_eq_pure_bind,i,-map_pure,-bind_pure_comp];exact p
end
section
variable{main:Bool}{ai:Type}{S:Sys ai}{s:ai}{h:ae}
def aoX:bz pv 195=J:=O
def aoY:bz pv 165=J:=O
def aoZ:bz pv 118=J:=O
def qY{a b:Int}[K:KK o5]:al pv (atW 63 #[(0,.int .i64 a),(1,.int .i64 b)]) h=K.f (gk (a,b)) h:=O
end
def eB(h:ae)(sl:o5)(e a:Nat)(rows:List (List o5))(d:Option Nat):Prop:=(d=o0/\rows=[]/\sl=.slice o0 0 0)\/∃b c arr,d=C b/\sl=dn b 0 rows.length c/\h b=C ⟨.cells arr e (0,0),J⟩/\arr.size=c*a/\rows.length<=c/\arr.toList.take (rows.length*a)=rows.flatten/\∀r∈rows,r.length=a
def Vx{a:Nat}:∀{rows:List (List o5)} {i j:Nat} {row:List o5} {x:o5},(∀r∈rows,r.length=a)->rows[i]? =C row->row[j]? =C x->rows.flatten[i*a+j]? =C x
 | [],i,j,row,x,_,hi,_=>by simp at hi
 |r::rows,i,j,row,x,c,hi,b=>by
  have d:=c r Y;cases i with
  |zero=>simp at hi;subst hi;have:j<r.length:=(F1.1 b).1;rw[azg,avE U,Nat.zero_mul,atI];exact b
  |succ i=>have:=Vx (rows:=rows) (i:=i) (λr h=>c r (by simp[h])) (by simpa using hi) b;rw[azg,List.getElem?_append_right (by rw[d,awy];omega),d,awy,(U:i*a+a+j- a=i*a+j)];exact this
def Vy{a:Nat}:∀{rows:List (List o5)},(∀r∈rows,r.length=a)->rows.flatten.length=rows.length*a
 | [],_=>by simp
 |r::rows,h=>by rw[azg,M3,h r Y,Vy (rows:=rows) λr b=>h r (by simp[b]),RF,awy];omega
def eB.at{h:ae}{sl:o5}{f a:Nat}{rows:List (List o5)}{g:Option Nat}(q:eB h sl f a rows g):dE h sl a rows:=by
 rcases q with⟨_,rfl,rfl⟩|⟨b,m,arr,rfl,rfl,hb,l,hc,c,d⟩
 .exact⟨o0,0,0,0,rfl,rfl,.inl rfl⟩
 .refine⟨_,0,_,_,rfl,rfl,.inr ⟨b,rfl,_,_,_,_,hb,λi n hi j x e=> ?_⟩⟩;have h1:=Vx d hi e;rw[<- c]at h1;have k:=(F1.1 h1).1;rw[azb (by simp at k;omega)]at h1;rw[atI];simpa using h1
def eB.slice{h:ae}{sl:o5}{b d:Nat}{rows:List (List o5)}{f:Option Nat}(q:eB h sl b d rows f):∃a n c,sl=.slice a n c:=by
 rcases q with⟨_,_,e⟩|⟨_,_,_,_,e,_⟩
 .exact⟨_,_,_,e⟩
 .exact⟨_,_,_,e⟩
def eB.keep{h h':ae}{sl:o5}{a c:Nat}{rows:List (List o5)}{cE:Option Nat}(q:eB h sl a c rows cE)(k:∀b x,cE=C b->h b=C x->h' b=C x):eB h' sl a c rows cE:=by
 rcases q with q|⟨b,d,arr,e,f,hb,r⟩
 .exact .inl q
 .exact .inr ⟨b,d,arr,e,f,k _ _ e hb,r⟩
def eB.fresh{h h0:ae}{a:Option vm}{n c:Nat}{g i:Nat}{rows:List (List o5)}{f:Option Nat}(q:eB h (.slice a n c) g i rows f)(k:∀d,f=C d->h0 d=o0)(A:vm)(aI:a=C A):h0 A.block=o0:=by
 rcases q with⟨_,_,e⟩|⟨b,l,arr,e,j,_⟩
 .cases e;cases aI
 .cases j;cases aI;exact k b e
def eB.nil{h:ae}{a b:Nat}:eB h (.slice o0 0 0) a b [] o0:=.inl ⟨rfl,rfl,rfl⟩
def uU(h:ae)(v:o5)(t:Nat):Prop:=∀(A:vm) (n c:Nat),v=.slice (C A) n c->∃arr f w,h A.block=C ⟨.cells arr t f,w⟩
def uU.le{h h':ae}{v:o5}{t:Nat}(le:h.ar h')(q:uU h v t):uU h' v t:=λA n c e=>let⟨arr,f,w,g⟩:=q A n c e;⟨arr,f,w,le _ _ g⟩
def eB.ty{h:ae}{sl:o5}{el a:Nat}{rows:List (List o5)}{d:Option Nat}(q:eB h sl el a rows d):uU h sl el:=λA n c e=>by
 rcases q with⟨_,_,rfl⟩|⟨b,f,arr,rfl,rfl,hb,_⟩
 .cases e
 .cases e;exact⟨_,_,_,hb⟩
def iZ(h:ae)(v:o5)(l:List Int):Prop:=ig h v l/\uU h v 3
def jD(h:ae)(v:o5)(l:List (Int×Int)):Prop:=rW h v l/\uU h v 63
def iZ.le{h h':ae}{v:o5}{l:List Int}(le:h.ar h')(q:iZ h v l):iZ h' v l:=⟨dE.le le q.1,q.2.le le⟩
def jD.le{h h':ae}{v:o5}{l:List (Int×Int)}(le:h.ar h')(q:jD h v l):jD h' v l:=⟨dE.le le q.1,q.2.le le⟩
section
variable{P:tb}{h:ae}
def pX{t f aU bs:Nat}{ty:TypeId}{z:o5}(n:P.underlying t=C (.slice f))(hs:cu P f=C aU)(D:l1 P f=C bs)(E:fw P f=C z)(F:z.cells.size=aU)(G:1<=aU)(H:1<=bs)(I:bs<=1000)
  {sl:o5} {rows:List (List o5)} {row:List o5} {A:Option Nat} (q:eB h sl f aU rows A) (a:row.length=aU) (hc:row.all jG=J) (hl:rows.length<=100000) {bE qX:Nat} (g2:h.iS ⟨bE,0,o0⟩ 0 (1*aU)=C row) {K:o5->ae->Prop}
  (k:∀L h' p,(∀d x,A≠C d->h d=C x->h' d=C x)->(p=A\/∃bG,p=C bG/\h bG=o0)->eB h' L f aU (rows++[row]) p->K L h'):@al P _ (Builtin.append_ #[t,t] ty #[sl,dn bE 0 1 qX]) h ⟨K⟩:=by
 have W:∀(s:List o5) (g:Nat),s=rows.flatten->(∀r∈rows,r.length=aU)->rows.length+1<=g->∀b,h b=o0->∀rest:List o5,rest.length=(g- (rows.length+1))*aU->K (.slice (C ⟨b,0,o0⟩) (rows.length+1) g) (h.put b ⟨.cells ⟨s++row++rest⟩ f,J⟩):=by
  intro s g ho j u b hb rest M;subst ho;have N:=Vy j;refine k _ _ (C b) (λd x _ l=> ?_) (.inr ⟨b,rfl,hb⟩) (.inr ⟨b,g,⟨rows.flatten++row++rest⟩,rfl,Y,cI,?_,by simpa using u,?_,λr v=> ?_⟩)
  .rw[bx (λe=>by subst e;rw[hb]at l;cases l)];exact l
  .obtain⟨k,rfl⟩:∃k,g=rows.length+1+k:=⟨g- (rows.length+1),U⟩;rw[(U:rows.length+1+k- (rows.length+1)=k)]at M;simp only[List.size_toArray,M3,N,a,M,avh,Nat.one_mul]
  .rw[M3,azc,awy,aCx];show((rows.flatten++row)++rest).take _=_;rw[List.take_left' (by rw[M3,N,a])];simp
  .rcases D3.1 v with q|q
   .exact j r q
   .rw[auJ.1 q];exact a
 have R:∀Q,aH P (Builtin.firstCells aU 1 (dn bE 0 1 qX)) h Q=Q ⟨row⟩ h:=λQ=>uo g2 Q;rcases q with⟨rfl,rfl,rfl⟩|⟨b,B,arr,rfl,rfl,hb,w,u,S,j⟩
 .refine sR (m:=1) (new':=row) n n hs D E F G H R (λhc=>by omega) (λhc=>⟨U,I,[],λQ=> ?_,λdq h1 b hb rest a=> ?_⟩)
  .rw[Builtin.firstCells];simp[aR]
  .exact W [] dq rfl Y h1 b hb rest a
 .refine sR (m:=1) (new':=row) n n hs D E F G H R (λy=> ?_) (λy=>⟨U,I,rows.flatten,λQ=> ?_,λdq h1 bG ad rest a=> ?_⟩)
  .have af:rows.length*aU+row.length<=arr.size:=by rw[w,a];have:(rows.length+1)*aU<=B*aU:=azP _ y;rw[avh,Nat.one_mul]at this;exact this
   have X:=EW (h:=h) (c:=b) (q:=f) (vs:=row) (arr:=arr) (o:=rows.length*aU) (i:=0) (K:=λh=>K (dn b 0 (rows.length+1) B) h) hc U;rw[lN hb,asg]at X;obtain⟨da,dQ⟩:=Mw row (rows.length*aU) arr af;have az:=X.mpr ?_
   .simp only[kU,atI];exact az.2
   .refine k _ _ (C b) (λd x hd l=> ?_) (.inl rfl) (.inr ⟨b,B,_,rfl,Y,cI,da.trans w,by simpa using y,?_,λr v=> ?_⟩)
    .rw[bx (λe=>hd (by rw[e]))];exact l
    .rw[M3,azc,awy,aCx,<- S];rw[a]at dQ;rw[asg,dQ];simp
    .rcases D3.1 v with q|q
     .exact j r q
     .rw[auJ.1 q];exact a
  .refine uo (vs:=rows.flatten) ?_ Q;have:rows.length*aU<=arr.size:=by rw[w];exact azP _ u
   rw[iX hb,Ba _ _ U];simp[S]
  .exact W rows.flatten dq rfl j h1 bG ad rest a
end
section
variable{h:ae}
def ao0:(Array.range (1*1)).map (λi=>(atN (.int .i64 0))[i%(atN (.int .i64 0)).size]!)=#[.int .i64 0]:=O
def VA{a:Int}{K:o5->ae->Prop}(k:∀c h1,h c=o0->h1=h.put c ⟨.cells ⟨[bO a]⟩ 3 (0,0),J⟩->K (dn c 0 1 1) h1):@al pv _ (atX 44 1 #[(0,.int .i64 a)]) h ⟨K⟩:=by simp only[al,atX,aJ,c0,aw7,gD,fe];rw[if_neg aty,if_neg aty];simp only[aJ,kH,eZ,aR,ao0];intro c hc;exact k c _ hc rfl
def Na:fw pv 63=C (.agg #[.int .i64 0,.int .i64 0]):=O
def Nb:cu pv 63=C 2:=O
def ao1:(Array.range (1*2)).map (λi=>(atN (.agg #[.int .i64 0,.int .i64 0]))[i%(atN (.agg #[.int .i64 0,.int .i64 0])).size]!)=#[.int .i64 0,.int .i64 0]:=O
def VB{p:Int×Int}{K:o5->ae->Prop}(k:∀c h1,h c=o0->h1=h.put c ⟨.cells ⟨[bO p.1,bO p.2]⟩ 63 (0,0),J⟩->K (dn c 0 1 1) h1):@al pv _ (atX 47 1 #[(0,.agg #[.int .i64 p.1,.int .i64 p.2])]) h ⟨K⟩:=by simp only[al,atX,aJ,c0,Tryz.underlying47,gD,Nb];rw[if_neg aty,if_neg aty];simp only[aJ,kH,Na,aR,ao1];intro c hc;exact k c _ hc rfl
def VC:l1 pv 3=C 8:=O
def VD:l1 pv 63=C 16:=O
end
section
variable{main:Bool}{ai:Type}{S:Sys ai}{s:ai}{h:ae}
def Nc:bz pv 115=J:=O
def ao2:bz pv 117=J:=O
def FP(n:Int):List o5:=[bO n]
def Bf(p:Int×Int):List o5:=[bO p.1,bO p.2]
def uV{h0 d h1:ae}{c:Nat}{x:dL}{sl:o5}{f g:Nat}{rows:List (List o5)}{cE:Option Nat}(q:eB d sl f g rows cE)(hc:d c=o0)(e:h1=d.put c x):eB h1 sl f g rows cE:=q.keep λb y hb a=>by subst e;rw[bx (λe=>by subst e;rw[hc]at a;cases a)];exact a
end
section
variable{h:ae}
def ao3:(Array.range (1*1)).map (λi=>(atN (.string .empty))[i%(atN (.string .empty)).size]!)=#[.string .empty]:=O
def yW{l:List UInt8}{K:o5->ae->Prop}(k:∀c h1,h c=o0->h1=h.put c ⟨.cells ⟨[au l]⟩ 9 (0,0),J⟩->K (dn c 0 1 1) h1):@al pv _ (atX 98 1 #[(0,au l)]) h ⟨K⟩:=by simp only[al,atX,aJ,c0,au4,gD,jC];rw[if_neg aty,if_neg aty];simp only[aJ,kH,tA,aR,ao3];intro c hc;exact k c _ hc rfl
def Bg:l1 pv 9=C 16:=O
end
section
variable{main:Bool}{ai:Type}{S:Sys ai}{s:ai}{h:ae}
def VE:bz pv 81=J:=O
def jO(f:List UInt8):List o5:=[au f]
def VF{l:List UInt8}{w:UInt8}(hl:l.length<=90000):bo pv main S 81 #[au l,.int .u8 w.toNat] s h λs' h' v=>s'=s/\h.ar h'/\∃m n cp,v=dn m 0 n cp/\n<=cp/\fW h' v (cz w l)/\h m=o0:=by
 refine bL (args:=[au l,.int .u8 w.toNat]) Tryz.func81 (by delta Tryz.f81;rfl) Tryz.ntmps81 Y O ?_;simp only[ah,seval];refine du (I:=λk e d sx L=>∃i f M u bc,k=l.length- i/\i<=l.length/\f<=i/\e 0=au l/\e 1=.int .u8 w.toNat/\e 7=.int .i64 i/\e 6=.int .i64 f/\e 5=M/\d=[]/\sx=s/\h.ar L/\(∀d,u=C d->h d=o0)/\eB L M 9 1 (bc.map jO) u/\bc.length<=f/\(∀x∈(l.drop f).take (i- f),(x==w)=q9)/\cz w l=bc++cz w (l.drop f)) (λk e d sx L hI=> ?_) (m:=l.length) ⟨0,0,.slice o0 0 0,o0,[],Y,U,U,atA,atA,atA,atA,atA,rfl,rfl,λ_ _ q=>q,(λ_ q=>by cases q),.nil,Y,Y,Y⟩;obtain⟨i,f,M,u,bc,rfl,hi,hf,e0,N,t,P,Q,rfl,rfl,c,g,q,a8,z,A⟩:=hI;obtain⟨a1,bK,c1,rfl⟩:=q.slice;have B:e 0=.string ⟨⟨l⟩⟩:=e0;rcases vy i l.length with hc|hc
 .have ag:l[i]? =C l[i]:=Y
  have az:(l.drop f)=(l.drop f).take (i- f)++l[i]::l.drop (i+1):=by
   conv=>lhs;rw[<- List.take_append_drop (i- f) (l.drop f)]
   rw[List.drop_drop,(U:f+(i- f)=i),atQ hc]
  have a6:(l.drop f).take (i+1- f)=(l.drop f).take (i- f)++[l[i]]:=by rw[(U:i+1- f=i- f+1),atC,List.getElem?_drop,(U:f+(i- f)=i)];simp[hc]
  generalize l[i]=x at ag az a6;simp only[ah,seval,B,t,eH,decide_eq_true (U:(i:Int)<l.length),fq,ag,fJ,N];refine⟨U,?_⟩;cases R:(((x.toNat:Nat):Int)==((w.toNat:Nat):Int))with
  |false=>
   have D:(x==w)=q9:=by rw[beq_eq_false_iff_ne]at R ⊢;exactλe=>R (by rw[e])
   simp only[ah,seval,t];exact⟨l.length- (i+1),U,i+1,f,_,u,bc,rfl,U,U,e0,N,by simp[cq (x:=(i:Int)+1) U U],P,Q,c,g,q,a8,λy a=>by
    rw[a6]at a;rcases D3.1 a with a|a
    .exact z y a
    .rw[auJ.1 a];exact D,A⟩
  |true=>
   have D:x=w:=by rw[beq_iff_eq]at R;exact UInt8.toNat_inj.1 U
   subst D;have E:∀{h:ae} [K:KK o5],al pv (K0 9 (.string ⟨⟨l⟩⟩) (C (.int .i64 f)) (C (.int .i64 i)) o0) h=K.f (au ((l.drop f).take (i- f))) h:=λ{h K}=>yO hf U;simp only[ah,seval,Q,P,t,B,E];refine yW λc3 h4 j b=> ?_;have o:=bU j b;have W:=bw b;simp only[ah,seval];refine pX (row:=jO ((l.drop f).take (i- f))) au4 jC Bg tA rfl aty aty aty (uV (h0:=h) q j b) rfl rfl atB (by rw[iX W];rfl) λba h5 F X G p=> ?_;obtain⟨a2,bR,c2,rfl⟩:=p.slice;simp only[ah,seval,t];have hz:cz x (l.drop f)=(l.drop f).take (i- f)::cz x (l.drop (i+1)):=by
    conv=>lhs;rw[az]
    exact MG z
   refine⟨l.length- (i+1),U,i+1,i+1,.slice a2 bR c2,F,bc++[(l.drop f).take (i- f)],rfl,U,U,e0,N,by simp[cq (x:=(i:Int)+1) U U],by simp[cq (x:=(i:Int)+1) U U],rfl,λd y hd=>X _ _ (λe=>by have:=g d e;rw[this]at hd;cases hd) (o _ _ (c _ _ hd)),λd hd=> ?_,by rw[auu];exact p,atB,Y,by rw[A,hz];simp⟩;rcases G with r|⟨bG,r,H⟩
   .exact g d (r▸hd)
   .rw[r]at hd;cases hd;exact fh (c.ay o) H
 .have:i=l.length:=U
  subst this;have E:∀{h:ae} [K:KK o5],al pv (K0 9 (.string ⟨⟨l⟩⟩) (C (.int .i64 f)) o0 o0) h=K.f (au (l.drop f)) h:=λ{h K}=>tx hf;simp only[ah,seval,B,t,eH,decide_eq_false (U:¬((l.length:Nat):Int)<l.length),Q,P,E];refine yW λc3 h4 j b=> ?_;have o:=bU j b;have W:=bw b;simp only[ah,seval];refine pX (row:=jO (l.drop f)) au4 jC Bg tA rfl aty aty aty (uV (h0:=h) q j b) rfl rfl atB (by rw[iX W];rfl) λba h5 F X G p=> ?_;have bd:∀d,F=C d->h d=o0:=λd hd=>by
   rcases G with r|⟨bG,r,H⟩
   .exact g d (r▸hd)
   .rw[r]at hd;cases hd;exact fh (c.ay o) H
  have bh:∀x∈l.drop f,(x==w)=q9:=λy a=>z y (by rw[List.take_of_length_le Y];exact a);have qa:=p.at;rcases p with⟨_,r,_⟩|⟨b5,bm,_,rfl,rfl,_,_,bn,_,_⟩
  .simp at r
  simp only[ah,seval];refine bu Tryz.results81 Y ⟨rfl,λd y hd=>X _ _ (λe=>by have:=g d e;rw[this]at hd;cases hd) (o _ _ (c _ _ hd)),b5,_,bm,atA,bn,?_,bd _ rfl⟩;rw[A,Fv bh];show dE _ _ 1 ((bc++[l.drop f]).map λf=>[au f]);rw[auu];exact qa
end
inductive jE
 |mG (a b:Int)
 |nk (ns:List Int)
 |nm (bc:List (Int×Int))
 |ground
 |nY (s:fU)
 |nZ (a:fV)
def wL(h:ae)(v:o5):jE->Prop
 | .mG a b=>v=.iface 159 (.agg #[bO a,bO b])
 | .nk ns=>∃a n c,v=.iface 161 (.agg #[.slice a n c])/\iZ h (.slice a n c) ns
 | .nm bc=>∃a n c,v=.iface 163 (.agg #[.slice a n c])/\jD h (.slice a n c) bc
 | .ground=>v=.iface 165 (.agg #[])
 | .nY s=>v=.iface 167 s.v
 | .nZ s=>v=.iface 169 s.v
def VG(h:ae)(v:o5):Prop:=∀(A:vm) w n c,v=.iface w (.agg #[.slice (C A) n c])->h A.block=o0
def wL.le{h h':ae}{v:o5}{l:jE}(le:h.ar h')(q:wL h v l):wL h' v l:=by
 cases l with
 |nk b=>obtain⟨a,n,c,e,r⟩:=q;exact⟨a,n,c,e,iZ.le le r⟩
 |nm b=>obtain⟨a,n,c,e,r⟩:=q;exact⟨a,n,c,e,jD.le le r⟩
 |_=>exact q
section
variable{h:ae}
def ao4{a:Array o5}[K:KK o5]:al pv (auW 159 (.agg a)) h=K.f (.iface 159 (.agg a)) h:=O
def VH{a:Array o5}[K:KK o5]:al pv (auW 161 (.agg a)) h=K.f (.iface 161 (.agg a)) h:=O
def VI{a:Array o5}[K:KK o5]:al pv (auW 163 (.agg a)) h=K.f (.iface 163 (.agg a)) h:=O
def ao5{a:Array o5}[K:KK o5]:al pv (auW 165 (.agg a)) h=K.f (.iface 165 (.agg a)) h:=O
def ao6{a:Array o5}[K:KK o5]:al pv (auW 167 (.agg a)) h=K.f (.iface 167 (.agg a)) h:=O
def ao7{a:Array o5}[K:KK o5]:al pv (auW 169 (.agg a)) h=K.f (.iface 169 (.agg a)) h:=O
def ao8{a b:Int}[K:KK o5]:al pv (atW 159 #[(0,.int .i64 a),(1,.int .i64 b)]) h=K.f (.agg #[.int .i64 a,.int .i64 b]) h:=O
def Nd{a:Option vm}{n c:Nat}[K:KK o5]:al pv (atW 46 #[(0,.slice a n c)]) h=K.f (.agg #[.slice a n c]) h:=O
def VJ{a:o5}[K:KK o5]:al pv (atW 161 #[(0,.agg #[a])]) h=K.f (.agg #[a]) h:=O
def Nf{a:Option vm}{n c:Nat}[K:KK o5]:al pv (atW 49 #[(0,.slice a n c)]) h=K.f (.agg #[.slice a n c]) h:=O
def VK{a:o5}[K:KK o5]:al pv (atW 163 #[(0,.agg #[a])]) h=K.f (.agg #[a]) h:=O
def Ng[K:KK o5]:al pv (atW 165 #[]) h=K.f (.agg #[]) h:=O
def VL{l:ByteArray}{a b c:Int}[K:KK o5]:al pv (atW 51 #[(0,.string l),(1,.int .i64 a),(2,.int .i64 b),(3,.int .i64 c)]) h=K.f (.agg #[.string l,.int .i64 a,.int .i64 b,.int .i64 c]) h:=O
def ao9{a b c d:o5}[K:KK o5]:al pv (atW 167 #[(0,.agg #[a,b,c,d])]) h=K.f (.agg #[a,b,c,d]) h:=O
def VM{l:ByteArray}{a b c:Int}[K:KK o5]:al pv (atW 53 #[(0,.string l),(1,.int .i64 a),(2,.int .i64 b),(3,.int .i64 c)]) h=K.f (.agg #[.string l,.int .i64 a,.int .i64 b,.int .i64 c]) h:=O
def apa{a b c d:o5}[K:KK o5]:al pv (atW 169 #[(0,.agg #[a,b,c,d])]) h=K.f (.agg #[a,b,c,d]) h:=O
end
section
variable{P:tb}{h:ae}
def FQ{t e c o n a l:Nat}(b:P.underlying t=C (.slice e))(g:cu P e=C 1)(f:l<=n)(i:n<=a){K:o5->ae->Prop}(k:K (dn c (if a=l then o else o+l) (n- l) (a- l)) h):@al P _ (K0 t (dn c o n a) (C (.int .i64 l)) o0 o0) h ⟨K⟩:=by
 simp only[al,K0,aJ,c0,b];simp only[Instr.slice,aJ,c0,b];refine Ct (.inr ⟨rfl,rfl⟩) (.inl ⟨_,rfl,f⟩) _ ?_;simp only[gD,g,aR];by_cases d:a=l
 .rw[if_pos d]at k ⊢;exact k
 .rw[if_neg d]at k ⊢;simp only[Option.map_some,kU,Nat.mul_one];exact k
def fW.tail{m o n a:Nat}{w:List UInt8}{rest:List (List UInt8)}(q:fW h (dn m o n a) (w::rest))(r:n<=a):fW h (dn m (if a=1 then o else o+1) (n- 1) (a- 1)) rest:=by
 obtain⟨b,t,u,c,e,d,hb⟩:=q;cases e;simp only[atJ,RF]at d;subst d;rcases hb with q|⟨dG,e,arr,q,f,w',l,g⟩
 .omega
 cases e;refine⟨_,if a=1 then o else o+1,_,_,rfl,Y,.inr ⟨m,rfl,arr,q,f,w',l,λi p hi j x k=> ?_⟩⟩;have s:i<rest.length:=by have:=(F1.1 hi).1;simpa using this
 rw[if_neg U];have:=g (i+1) p (by simpa using hi) j x k;rw[(U:o+1+i*1+j=o+(i+1)*1+j)];exact this
def fW.get{m o n c:Nat}{l:List (List UInt8)}(q:fW h (dn m o n c) l):n=l.length/\(l=[]\/∃arr q f w,h m=C ⟨.cells arr q f,w⟩/\∀i x,l[i]? =C x->arr[o+i]? =C (au x)):=by
 obtain⟨b,k,p,bJ,e,a,hb⟩:=q;cases e;simp only[atJ]at a;refine⟨a.symm,?_⟩;rcases hb with r|⟨dG,e,arr,q,f,w,g,d⟩
 .exact .inl (aAM.1 U)
 .cases e;refine .inr ⟨arr,q,f,w,g,λi x j=> ?_⟩;have:=d i [au x] (by simp[j]) 0 _ rfl;simpa using this
def ig.get{a:Option vm}{n c:Nat}{ns:List Int}(q:ig h (.slice a n c) ns):n=ns.length/\(ns=[]\/∃m o,a=C ⟨m,o,o0⟩/\∃arr q f w,h m=C ⟨.cells arr q f,w⟩/\∀i x,ns[i]? =C x->arr[o+i]? =C (.int .i64 x)):=by
 obtain⟨b,o,l,bJ,e,d,hb⟩:=q;cases e;simp only[atJ]at d;refine⟨d.symm,?_⟩;rcases hb with r|⟨m,rfl,arr,q,f,w,j,g⟩
 .exact .inl (aAM.1 U)
 .refine .inr ⟨m,o,rfl,arr,q,f,w,j,λi x k=> ?_⟩;have:=g i [bO x] (by simp[k]) 0 _ rfl;simpa[bO]using this
end
def VN(l:List sa):Bool:=(atG l.length).all λi=>match l[i]? with
 |some o=>(iW o.op).all λt=>(atG l.length).all λj=>match l[j]? with
  |some a=>a.dst != C t||(if Kf j i then kP l i j else td i j||kP l j i)
  |none=>J
 |none=>J
def apb{l:List sa}(h:VN l=J){i j t:Nat}{o d:sa}(hi:l[i]? =C o)(c:l[j]? =C d)(f:t∈iW o.op)(hd:d.dst=C t):(j<i/\kP l i j=J)\/j=i\/(i<j/\kP l j i=J):=by
 have g:=(F1.1 hi).1;have k:=(F1.1 c).1;have h1:=G0.1 h i (au9.2 g);rw[hi]at h1;have a:=G0.1 (G0.1 h1 t f) j (au9.2 k);rw[c]at a;simp only[hd,bne_self_eq_false,awc]at a;by_cases b:j<i
 .rw[if_pos (show Kf j i=J from aus b)]at a;exact .inl ⟨b,a⟩
 .rw[if_neg (show ¬Kf j i=J fromλq=>b (at4 q))]at a;rw[auU]at a;rcases a with q|q
  .exact .inr (.inl (atP q).symm)
  .by_cases e:j=i
   .exact .inr (.inl e)
   .exact .inr (.inr ⟨U,q⟩)
section
variable{P:tb}{main:Bool}{ai:Type}{S:Sys ai}{b:aS}
def VO{s:ai}{h0:ae}:∀{l:List sa} {e0:Env} {N:Env->Prop},uK P main S b s h0 l e0 N->∃E:Nat->Env,E 0=e0/\N (E l.length)/\∀i o,l[i]? =C o->∃v,E (i+1)=b7 (E i) o.dst v/\∀h,h0.ar h->eV P main S b o.type o.op (aA (E i)) s h λc h' d=>c=s/\h.ar h'/\d=v
 | [],e0,N,u=>⟨λ_=>e0,rfl,u,λi o hi=>by simp at hi⟩
 |o::l,e0,N,⟨v,a,u⟩=>by
  obtain⟨E,h1,e,f⟩:=VO u;refine⟨λ|0=>e0|i+1=>E i,rfl,e,λi g hi=> ?_⟩;cases i with
  |zero=>simp at hi;subst hi;exact⟨v,h1,a⟩
  |succ i=>exact f i g (by simpa using hi)
def VP{l:List sa}{d:List tc}{N:Env->List tc->ai->ae->Prop}(bk:P.follows .mixedOrders=J)(h1:mE l=J)(h2:l5 0 l=J)(h3:(l.all λo=>uJ o.op)=J)(h4:VN l=J){e0:Env}{s:ai}{h0:ae}
  (u:uK P main S b s h0 l e0 λE=>∀h,h0.ar h->N E d s h) (t:Nat):fO P main S b l.toArray (atM (P.follows .mixedOrders) l.toArray t) e0 d s h0 N:=by
 obtain⟨E,k0,kN,k⟩:=VO u;have hz:l.toArray.size=l.length:=Y
 have W:∀(t n m:Nat),m+n<=l.length->(∀j o,m<=j->j<m+n->l[j]? =C o->o.dst≠C t)->E (m+n) t=E m t:=by
  intro t n
  induction n with
  |zero=>intros;rfl
  |succ n ih=>
   intro m hm f;have A:m+n<l.length:=U
   obtain⟨v,e,_⟩:=k (m+n) l[m+n] (Q4 A);have p:=f (m+n) l[m+n] U U (Q4 A);show E (m+n+1) t=_;rw[e,<- ih m U λj o a b=>f j o a U];cases hd:l[m+n].dst with
   |none=>rfl
   |some d=>rw[eU,aL,if_neg (λq=>p (by rw[hd,q]))]
 have af:∀{i j:Nat} {o g:sa} {t:Nat},l[i]? =C o->l[j]? =C g->o.dst=C t->g.dst=C t->i=j:=λhi f e L=>uE h1 hi f (e.trans L.symm) (by rw[e];simp);have early:∀{i j t:Nat} {o:sa},l[j]? =C o->o.dst=C t->i<=j->E i t=e0 t:=λ{i j t o} f hd bn=>by
  have H:=(F1.1 f).1;have:=W t i 0 U λj' g _ cl X L=>by have:=af X f L hd;omega
  rw[atI]at this;rw[this,k0]
 have ba:∀{i j t:Nat} {o:sa},l[j]? =C o->o.dst=C t->j<i->i<=l.length->E i t=E l.length t:=λ{i j t o} f hd bn hi=>by
  have:=W t (l.length- i) i U λj' g cM _ X L=>by have:=af X f L hd;omega
  rw[(U:i+(l.length- i)=l.length)]at this;exact this.symm
 have bb:∀{i t:Nat},(∀(j:Nat) (o:sa),l[j]? =C o->o.dst≠C t)->i<=l.length->E i t=e0 t:=λ{i t} p hi=>by have:=W t i 0 U λj o _ _ f=>p j o f;rw[atI]at this;rw[this,k0]
 unfold atM;rw[bk,awd,if_pos rfl];refine uu (ops:=l.toArray) h2 (λD e R h=>R=s/\h0.ar h/\(∀(j:Nat) (o:sa),l[j]? =C o->D j=J->∀x∈o.after,atV .any x=J->x.on<l.length->D x.on=J)/\(∀t,(∀(j:Nat) (o:sa),l[j]? =C o->o.dst≠C t)->e t=e0 t)/\∀(j:Nat) (o:sa) (t:Nat),l[j]? =C o->o.dst=C t->e t=if D j=J then E l.length t else e0 t)
  (λD D' e R h Q ⟨I,F,K,B,y⟩=> ?_) (λD e R h i o ⟨I,F,K,B,y⟩ hi az ho a6=> ?_) (λD e R h ⟨I,F,K,B,y⟩ bt=> ?_) ⟨rfl,λ_ _ e=>e,λ_ _ _ q=>(W3 q).elim,λ_ _=>rfl,λ_ _ _ _ _=>rfl⟩ t
 .rw[hz]at Q;refine⟨I,F,λj o f w x z hb A=> ?_,B,λj o t f ht=> ?_⟩
  .have H:=(F1.1 f).1;rw[<- Q x.on A];exact K j o f (by rw[Q j H];exact w) x z hb A
  .have H:=(F1.1 f).1;rw[<- Q j H];exact y j o t f ht
 .subst I;have r:l[i]? =C o:=by simpa using ho
  have il:=(F1.1 r).1;have hw:R9 o (jV l.toArray e)=J:=by simp[R9,uD h1 r]
  rw[if_pos hw];have hc:=G0.1 h3 o (List.mem_of_getElem? r);obtain⟨v,e1,hv⟩:=k i o r;have hr:∀t∈iW o.op,e t=E i t:=λt ht=>by
   by_cases M:∃(j:Nat) (g:sa),l[j]? =C g/\g.dst=C t
   .obtain⟨j,g,f,hd⟩:=M;have H:=(F1.1 f).1;rcases apb h4 r f ht hd with⟨a,c⟩|a|⟨a,c⟩
    .unfold kP at c;rw[r]at c;obtain⟨x,z,hb⟩:=au2.1 c;simp only[vh,beq_iff_eq]at hb;have w:=a6 x (by simpa using z) hb.1;rw[hb.2]at w;rw[y j g t f hd,if_pos w,ba f hd a U]
    .subst a;rw[y j g t f hd,if_neg (by rw[az];exact W3),early f hd (vr _)]
    .have b4:D j=q9:=by
      cases w:D j with
      |false=>rfl
      |true=>unfold kP at c;rw[f]at c;obtain⟨x,z,hb⟩:=au2.1 c;simp only[vh,beq_iff_eq]at hb;have:=K j g f w x (by simpa using z) hb.1 (by rw[hb.2];exact il);rw[hb.2,az]at this;cases this
     rw[y j g t f hd,if_neg (by rw[b4];exact W3),early f hd U]
   .have p:∀(j:Nat) (g:sa),l[j]? =C g->g.dst≠C t:=λj g f hd=>M ⟨j,g,f,hd⟩;rw[B t p,bb p U]
  have st:=hv h F;rw[<- yC hc hr]at st;refine pz (EN hc (yD (λs2 h2 v' ⟨r1,r2,r3⟩=> ?_) st));subst r1;subst r3;refine⟨rfl,rfl,λb x e=>r2 b x (F b x e),λj oj f w x z hb A=> ?_,λt p=> ?_,λj oj t f hd=> ?_⟩
  .by_cases e2:x.on=i
   .simp[e2]
   .simp only[if_neg e2];by_cases G:j=i
    .subst G;rw[r]at f;cases f;exact a6 x z hb
    .simp only[if_neg G]at w;exact K j oj f w x z hb A
  .cases hd:o.dst with
   |none=>exact B t p
   |some d=>rw[eU,aL,if_neg (λq=>p i o r (by rw[hd,q]))];exact B t p
  .by_cases G:j=i
   .subst G;rw[r]at f;cases f;simp only[if_true];rw[<- ba r hd (awR _) il,e1,hd];simp only[eU,aL,if_true]
   .simp only[if_neg G];rw[<- y j oj t f hd];cases b5:o.dst with
    |none=>rfl
    |some d=>rw[eU,aL,if_neg (λq=>G (af f r hd (by rw[b5,q])))]
 .subst I;have:e=E l.length:=by
   funext t;by_cases M:∃(j:Nat) (g:sa),l[j]? =C g/\g.dst=C t
   .obtain⟨j,g,f,hd⟩:=M;rw[y j g t f hd,if_pos (bt j (by rw[hz];exact(F1.1 f).1))]
   .have p:∀(j:Nat) (g:sa),l[j]? =C g->g.dst≠C t:=λj g f hd=>M ⟨j,g,f,hd⟩;rw[B t p,bb p (vr _)]
  subst this;exact kN h F
end
def VQ(l:List sa):Bool:=(atG l.length).all λi=>match l[i]? with
 |some o=>(o8 o.op).all λt=>(atG l.length).all λj=>match l[j]? with
  |some a=>a.dst != C t||(if Kf j i then kP l i j else td i j||kP l j i)
  |none=>J
 |none=>J
def apc{l:List sa}(h:VQ l=J){i j t:Nat}{o d:sa}(hi:l[i]? =C o)(c:l[j]? =C d)(f:t∈o8 o.op)(hd:d.dst=C t):(j<i/\kP l i j=J)\/j=i\/(i<j/\kP l j i=J):=by
 have g:=(F1.1 hi).1;have k:=(F1.1 c).1;have h1:=G0.1 h i (au9.2 g);rw[hi]at h1;have a:=G0.1 (G0.1 h1 t f) j (au9.2 k);rw[c]at a;simp only[hd,bne_self_eq_false,awc]at a;by_cases b:j<i
 .rw[if_pos (show Kf j i=J from aus b)]at a;exact .inl ⟨b,a⟩
 .rw[if_neg (show ¬Kf j i=J fromλq=>b (at4 q))]at a;rw[auU]at a;rcases a with q|q
  .exact .inr (.inl (atP q).symm)
  .by_cases e:j=i
   .exact .inr (.inl e)
   .exact .inr (.inr ⟨U,q⟩)
def yX(xl:List Nat)(o:sa):Bool:=UF o.op||match o.dst with|some t=>xl.contains t|none=>q9
def wM(xl:List Nat)(l:List sa)(i:Nat):Bool:=match l[i]? with|some o=>kO o.op|| !yX xl o|none=>q9
def VR(xl:List Nat)(l:List sa):Bool:=(atG l.length).all λi=>(atG l.length).all λj=> !(wM xl l i&&jk l j)||td i j||(if Kf j i then kP l i j else kP l j i)
def apd{xl:List Nat}{l:List sa}(h:VR xl l=J){i j:Nat}(c:i<l.length)(d:j<l.length)(f:wM xl l i=J)(hs:jk l j=J):i=j\/(j<i/\kP l i j=J)\/(i<j/\kP l j i=J):=by
 have b:=G0.1 (G0.1 h i (au9.2 c)) j (au9.2 d);rw[f,hs]at b;simp only[Bool.and_self,Bool.not_true,awc,auU]at b;rcases b with q|q
 .exact .inl (atP q)
 .by_cases a:j<i
  .rw[if_pos (show Kf j i=J from aus a)]at q;exact .inr (.inl ⟨a,q⟩)
  .rw[if_neg (show ¬Kf j i=J fromλq=>a (at4 q))]at q;by_cases e:i=j
   .exact .inl e
   .exact .inr (.inr ⟨U,q⟩)
section
variable{P:tb}{main:Bool}{ai:Type}{S:Sys ai}{b:aS}
def Nh(P:tb)(main:Bool){ai:Type}(S:Sys ai)(b:aS)(s:ai)(Cz:ae->Prop)(xl:List Nat)(o:sa)(e:Env)(h:ae)(e':Env)(h':ae):Prop:=(kO o.op=J/\e'=e/\oG P o.op (aA e) h (λx=>x=h')/\Cz h')\/
 (kO o.op=q9/\h'=h/\∃v,e'=b7 e o.dst v/\((yX xl o=J/\∀h,Cz h->eV P main S b o.type o.op (aA e) s h λa c d=>a=s/\c=h/\d=v)\/(yX xl o=q9/\eV P main S b o.type o.op (aA e) s h λa c d=>a=s/\c=h/\d=v)))
def oI(P:tb)(main:Bool){ai:Type}(S:Sys ai)(b:aS)(s:ai)(Cz:ae->Prop)(xl:List Nat)(c:Bool):List sa->Env->ae->(Env->ae->Prop)->Prop
 | [],e,h,N=>N e h
 |o::l,e,h,N=>∃e' h',Nh P main S b s Cz xl o e h e' h'/\(c=J->h'=h)/\oI P main S b s Cz xl c l e' h' N
def VS{s:ai}{Cz:ae->Prop}{xl:List Nat}{c:Bool}:∀{l:List sa} {e0:Env} {h0:ae} {N:Env->ae->Prop},oI P main S b s Cz xl c l e0 h0 N->∃(E:Nat->Env) (H:Nat->ae),E 0=e0/\H 0=h0/\N (E l.length) (H l.length)/\∀i o,l[i]? =C o->Nh P main S b s Cz xl o (E i) (H i) (E (i+1)) (H (i+1))/\(c=J->H (i+1)=H i)
 | [],e0,h0,N,u=>⟨λ_=>e0,λ_=>h0,rfl,rfl,u,λi o hi=>by simp at hi⟩
 |o::l,e0,h0,N,⟨e',h',a,d,u⟩=>by
  obtain⟨E,H,h1,e,f,g⟩:=VS u;refine⟨λ|0=>e0|i+1=>E i,λ|0=>h0|i+1=>H i,rfl,rfl,f,λi h hi=> ?_⟩;cases i with
  |zero=>simp at hi;subst hi;show Nh P main S b s Cz xl o e0 h0 (E 0) (H 0)/\(c=J->H 0=h0);rw[h1,e];exact⟨a,d⟩
  |succ i=>exact g i h (by simpa using hi)
def tD{l:List sa}{d:List tc}{N:Env->List tc->ai->ae->Prop}(ec:P.follows .mixedOrders=J)(h1:mE l=J)(h2:l5 0 l=J)(h3:wI l=J)(h4:VQ l=J){Cz:ae->Prop}{xl:List Nat}{c:Bool}(h5:c=J\/VR xl l=J){e0:Env}{s:ai}{h0:ae}
  (hC:Cz h0) (u:oI P main S b s Cz xl c l e0 h0 λE h=>N E d s h) (t:Nat):fO P main S b l.toArray (atM (P.follows .mixedOrders) l.toArray t) e0 d s h0 N:=by
 obtain⟨E,H,k0,kh,kN,b5⟩:=VS u;have k:=λi o hi=>(b5 i o hi).1;have kc:c=J->∀i,i<=l.length->H i=h0:=λhc i=>by
  induction i with
  |zero=>intro _;exact kh
  |succ i ih=>intro hi;rw[(b5 i l[i] (Q4 U)).2 hc];exact ih U
 have hz:l.toArray.size=l.length:=Y
 have ef:∀{i o},l[i]? =C o->∀t,o.dst≠C t->E (i+1) t=E i t:=λ{i o} hi t w=>by
  rcases k i o hi with⟨_,e,_,_⟩|⟨_,_,v,e,_⟩
  .rw[e]
  .rw[e];cases hd:o.dst with
   |none=>rfl
   |some d=>rw[eU,aL,if_neg (λq=>w (by rw[hd,q]))]
 have bm:∀(t n m:Nat),m+n<=l.length->(∀(j:Nat) (o:sa),m<=j->j<m+n->l[j]? =C o->o.dst≠C t)->E (m+n) t=E m t:=by
  intro t n
  induction n with
  |zero=>intros;rfl
  |succ n ih=>
   intro m hm f;have G:m+n<l.length:=U
   have hi:l[m+n]? =C l[m+n]:=Q4 G;show E (m+n+1) t=_;rw[ef hi t (f _ _ U U hi),ih m U λj o a b=>f j o a U]
 have b6:∀(n m:Nat),m+n<=l.length->(∀j,m<=j->j<m+n->jk l j=q9)->H (m+n)=H m:=by
  intro n
  induction n with
  |zero=>intros;rfl
  |succ n ih=>
   intro m hm f;have G:m+n<l.length:=U
   have hi:l[m+n]? =C l[m+n]:=Q4 G;have hs:=f (m+n) U U;unfold jk at hs;rw[hi]at hs;show H (m+n+1)=_;rcases k _ _ hi with⟨a,_⟩|⟨_,e,_⟩
   .have eg:kO l[m+n].op=q9:=hs;rw[eg]at a;cases a
   .rw[e];exact ih m U λj a b=>f j a U
 have b0:∀{i j:Nat} {o g:sa} {t:Nat},l[i]? =C o->l[j]? =C g->o.dst=C t->g.dst=C t->i=j:=λhi f e e'=>uE h1 hi f (e.trans e'.symm) (by rw[e];simp);have early:∀{i j t:Nat} {o:sa},l[j]? =C o->o.dst=C t->i<=j->E i t=e0 t:=λ{i j t o} f hd ek=>by
  have p:=(F1.1 f).1;have:=bm t i 0 U λj' g _ e9 bn e'=>by have:=b0 bn f e' hd;omega
  rw[atI]at this;rw[this,k0]
 have dt:∀{i j t:Nat} {o:sa},l[j]? =C o->o.dst=C t->j<i->i<=l.length->E i t=E l.length t:=λ{i j t o} f hd ek hi=>by
  have:=bm t (l.length- i) i U λj' g e1 _ bn e'=>by have:=b0 bn f e' hd;omega
  rw[(U:i+(l.length- i)=l.length)]at this;exact this.symm
 have dx:∀{i t:Nat},(∀(j:Nat) (o:sa),l[j]? =C o->o.dst≠C t)->i<=l.length->E i t=e0 t:=λ{i t} w hi=>by have:=bm t i 0 U λj o _ _ f=>w j o f;rw[atI]at this;rw[this,k0]
 unfold atM;rw[ec,awd,if_pos rfl];refine uu (ops:=l.toArray) h2 (λD e s' h=>s'=s/\Cz h/\(c=J->h=h0)/\(∀i,i<=l.length->(∀j,j<l.length->jk l j=J->(D j=J↔j<i))->h=H i)/\(∀(j:Nat) (o:sa),l[j]? =C o->D j=J->∀x∈o.after,atV .any x=J->x.on<l.length->D x.on=J)/\(∀t,(∀(j:Nat) (o:sa),l[j]? =C o->o.dst≠C t)->e t=e0 t)/\(∀(j:Nat) (o:sa) (t:Nat),l[j]? =C o->o.dst=C t->e t=if D j=J then E l.length t else e0 t))
  (λD D' e s' h af ⟨q1,qC,q0,R,q3,M,I⟩=> ?_) (λD e s' h i o ⟨q1,qC,q0,R,q3,M,I⟩ hi bp ho b8=> ?_) (λD e s' h ⟨q1,qC,q0,R,q3,M,I⟩ b9=> ?_)
  ⟨rfl,hC,λ_=>rfl,λi hi hd=> ?_,λ_ _ _ q=>(W3 q).elim,λ_ _=>rfl,λ_ _ _ _ _=>rfl⟩ t
 .rw[hz]at af;refine⟨q1,qC,q0,λi hi hd=>R i hi λj p hs=>by rw[af j p];exact hd j p hs,λj o f B x K hb G=> ?_,M,λj o t f A=> ?_⟩
  .have p:=(F1.1 f).1;rw[<- af x.on G];exact q3 j o f (by rw[af j p];exact B) x K hb G
  .have p:=(F1.1 f).1;rw[<- af j p];exact I j o t f A
 .subst q1;have r:l[i]? =C o:=by simpa using ho
  have W:=(F1.1 r).1;have hw:R9 o (jV l.toArray e)=J:=by simp[R9,uD h1 r]
  rw[if_pos hw];have ca:∀j,j<l.length->kP l j i=J->D j=q9:=λj p c=>by
   cases B:D j with
   |false=>rfl
   |true=>have f:l[j]? =C l[j]:=Q4 p;unfold kP at c;rw[f]at c;obtain⟨x,K,hb⟩:=au2.1 c;simp only[vh,beq_iff_eq]at hb;have:=q3 j _ f B x (by simpa using K) hb.1 (by rw[hb.2];exact W);rw[hb.2,bp]at this;cases this
  have cb:∀j,kP l i j=J->D j=J:=λj c=>by unfold kP at c;rw[r]at c;obtain⟨x,K,hb⟩:=au2.1 c;simp only[vh,beq_iff_eq]at hb;have B:=b8 x (by simpa using K) hb.1;rw[hb.2]at B;exact B
  have hr:∀t∈o8 o.op,e t=E i t:=λt A=>by
   by_cases bd:∃(j:Nat) (g:sa),l[j]? =C g/\g.dst=C t
   .obtain⟨j,g,f,hd⟩:=bd;have p:=(F1.1 f).1;rcases apc h4 r f A hd with⟨a,c⟩|a|⟨a,c⟩
    .rw[I j g t f hd,if_pos (cb j c),dt f hd a U]
    .subst a;rw[I j g t f hd,if_neg (by rw[bp];exact W3),early f hd (vr _)]
    .rw[I j g t f hd,if_neg (by rw[ca j p c];exact W3),early f hd U]
   .have w:∀(j:Nat) (g:sa),l[j]? =C g->g.dst≠C t:=λj g f hd=>bd ⟨j,g,f,hd⟩;rw[M t w,dx w U]
  have ck:¬c=J->wM xl l i=J->∀j,j<l.length->jk l j=J->(D j=J↔j<i):=λa8 hm j p hs=>by
   rcases apd (h5.resolve_left a8) W p hm hs with a|⟨a,c⟩|⟨a,c⟩
   .subst a;rw[bp];exact⟨λq=>(W3 q).elim,λq=>by omega⟩
   .exact⟨λ_=>a,λ_=>cb j c⟩
   .rw[ca j p c];exact⟨λq=>(W3 q).elim,λq=>by omega⟩
  have cl:wM xl l i=J->h=H i:=λhm=>by
   by_cases hc:c=J
   .rw[q0 hc,kc hc i U]
   .exact R i U (ck hc hm)
  have dA:∀v,(∀t,o.dst=C t->E (i+1) t=v)->(∀t,(∀(j:Nat) (o:sa),l[j]? =C o->o.dst≠C t)->b7 e o.dst v t=e0 t)/\∀(j:Nat) (F:sa) (t:Nat),l[j]? =C F->F.dst=C t->b7 e o.dst v t=if(if j=i then J else D j)=J then E l.length t else e0 t:=by
   intro v hv;refine⟨λt w=> ?_,λj F t f hd=> ?_⟩
   .cases hd:o.dst with
    |none=>exact M t w
    |some d=>rw[eU,aL,if_neg (λq=>w i o r (by rw[hd,q]))];exact M t w
   .by_cases z:j=i
    .subst z;rw[r]at f;cases f;simp only[if_true];rw[<- dt r hd (awR _) W,hv t hd,hd];simp only[eU,aL,if_true]
    .simp only[if_neg z];rw[<- I j F t f hd];cases er:o.dst with
     |none=>rfl
     |some d=>rw[eU,aL,if_neg (λq=>z (b0 f r hd (by rw[er,q])))]
  have cm:∀(j:Nat) (F:sa),l[j]? =C F->(if j=i then J else D j)=J->∀x∈F.after,atV .any x=J->x.on<l.length->(if x.on=i then J else D x.on)=J:=by
   intro j F f B x K hb G;by_cases e2:x.on=i
   .simp[e2]
   .simp only[if_neg e2];by_cases z:j=i
    .subst z;rw[r]at f;cases f;exact b8 x K hb
    .simp only[if_neg z]at B;exact q3 j F f B x K hb G
  rcases k i o r with⟨hs,ee,L,et⟩|⟨hs,eh,v,ee,L⟩
  .have eu:jk l i=J:=by unfold jk;rw[r];exact hs
   have cM:wM xl l i=J:=by unfold wM;rw[r];simp[hs]
   have bs:=(Fg h3 r).1 hs;have hh:=cl cM;rw[<- Mq hs hr,<- hh]at L;have X:=dA undef (λt A=>by rw[bs]at A;cases A);rw[bs]at X;refine pz (UH bs (UG (λh' ew=> ?_) L));subst ew;refine⟨rfl,rfl,et,λhc=>kc hc (i+1) W,λQ bt hd=> ?_,cm,X.1,X.2⟩;by_cases a8:c=J
   .rw[kc a8 Q bt,kc a8 (i+1) W]
   have dd:∀j,j<l.length->jk l j=J->((if j=i then J else D j)=J↔j<i+1):=λj p y=>by
    by_cases z:j=i
    .simp[z]
    .simp only[if_neg z];rw[ck a8 cM j p y];omega
   have e1:i+1<=Q:=by have:=(hd i W eu).1 Y;omega
   have:=b6 (Q- (i+1)) (i+1) U λj a bG=>by
    cases y:jk l j with
    |false=>rfl
    |true=>have:=(dd j U y).1 ((hd j U y).2 U);omega
   rw[(U:i+1+(Q- (i+1))=Q)]at this;exact this.symm
  .have hc:=(Fg h3 r).2 hs;have ez:∀t∈iW o.op,e t=E i t:=λt A=>hr t (by
    have:o8 o.op=iW o.op:=by cases eA:o.op<;>first|rfl|(rw[eA]at hs;cases hs)
    rw[this];exact A)
   have c6:eV P main S b o.type o.op (aA (E i)) s' h λs2 h2 v'=>s2=s'/\h2=h/\v'=v:=by
    rcases L with⟨_,L⟩|⟨eE,L⟩
    .exact L h qC
    .rw[cl (by unfold wM;rw[r];simp[eE])];exact L
   rw[<- yC hc ez]at c6;have X:=dA v (λt A=>by rw[ee,A,eU,aL,if_pos rfl]);refine pz (EN hc (yD (λs2 h2 v' ⟨r1,r2,r3⟩=> ?_) c6));subst r1;subst r2;subst r3;have eF:∀j,jk l j=J->(if j=i then J else D j)=D j:=λj y=>by
    by_cases z:j=i
    .subst z;unfold jk at y;rw[r]at y;have de:kO o.op=J:=y;rw[hs]at de;cases de
    .rw[if_neg z]
   refine⟨rfl,rfl,qC,q0,λQ bt hd=>R Q bt λj p y=>by rw[<- eF j y];exact hd j p y,cm,X.1,X.2⟩
 .have:=b6 i 0 U λj _ bG=>by
   cases y:jk l j with
   |false=>rfl
   |true=>exact((W3 ((hd j U y).2 U))).elim
  rw[atI]at this;rw[this,kh]
 .subst q1;have he:e=E l.length:=by
   funext t;by_cases bd:∃(j:Nat) (g:sa),l[j]? =C g/\g.dst=C t
   .obtain⟨j,g,f,hd⟩:=bd;rw[I j g t f hd,if_pos (b9 j (by rw[hz];exact(F1.1 f).1))]
   .have w:∀(j:Nat) (g:sa),l[j]? =C g->g.dst≠C t:=λj g f hd=>bd ⟨j,g,f,hd⟩;rw[M t w,dx w (vr _)]
  have hh:=R l.length (vr _) λj p _=>⟨λ_=>p,λ_=>b9 j (by rw[hz];exact p)⟩;subst he;subst hh;exact kN
end
section
variable{P:tb}{main:Bool}{ai:Type}{S:Sys ai}{b:aS}{s:ai}{h:ae}{l:List sa}{e:Env}{N:Env->ae->Prop}{dst:Option Nat}{op:Op}{ty:Nat}{pos:String}{es:Array Edge}{g:Option (Nat×Bool)}
def tE{Cz:ae->Prop}{xl:List Nat}{c:Bool}:oI P main S b s Cz xl c [] e h N=N e h:=rfl
def lR{Cz:ae->Prop}{xl:List Nat}{c:Bool}{v:o5}(hs:kO op=q9)(a:UF op=J)(u:∀h,eV P main S b ty op (aA e) s h λd h' f=>d=s/\h'=h/\f=v)(k:oI P main S b s Cz xl c l (b7 e dst v) h N):oI P main S b s Cz xl c (⟨dst,op,ty,pos,es,g⟩::l) e h N:=⟨_,_,.inr ⟨hs,rfl,v,rfl,.inl ⟨by unfold yX;rw[a];rfl,λh _=>u h⟩⟩,λ_=>rfl,k⟩
def yY{Cz:ae->Prop}{xl:List Nat}{c:Bool}{v:o5}(hs:kO op=q9)(a:yX xl ⟨dst,op,ty,pos,es,g⟩=J)(u:∀h,Cz h->eV P main S b ty op (aA e) s h λd h' f=>d=s/\h'=h/\f=v)(k:oI P main S b s Cz xl c l (b7 e dst v) h N):oI P main S b s Cz xl c (⟨dst,op,ty,pos,es,g⟩::l) e h N:=⟨_,_,.inr ⟨hs,rfl,v,rfl,.inl ⟨a,u⟩⟩,λ_=>rfl,k⟩
def lU{Cz:ae->Prop}{xl:List Nat}{c:Bool}{v:o5}(hs:kO op=q9)(a:yX xl ⟨dst,op,ty,pos,es,g⟩=q9)(u:eV P main S b ty op (aA e) s h λd h' f=>d=s/\h'=h/\f=v)(k:oI P main S b s Cz xl c l (b7 e dst v) h N):oI P main S b s Cz xl c (⟨dst,op,ty,pos,es,g⟩::l) e h N:=⟨_,_,.inr ⟨hs,rfl,v,rfl,.inr ⟨a,u⟩⟩,λ_=>rfl,k⟩
def n1{Cz:ae->Prop}{xl:List Nat}{t:Nat}{x y:su}{h':ae}(a:Cz h')(u:oG P (.store t x y) (aA e) h (λx=>x=h'))(k:oI P main S b s Cz xl q9 l e h' N):oI P main S b s Cz xl q9 (⟨dst,.store t x y,ty,pos,es,g⟩::l) e h N:=⟨_,h',.inl ⟨rfl,rfl,u,a⟩,λe=>(by cases e),k⟩
def uW{Cz:ae->Prop}{xl:List Nat}{c:Bool}{t:Nat}{x y:su}(a:Cz h)(u:oG P (.store t x y) (aA e) h (λx=>x=h))(k:oI P main S b s Cz xl c l e h N):oI P main S b s Cz xl c (⟨dst,.store t x y,ty,pos,es,g⟩::l) e h N:=⟨_,h,.inl ⟨rfl,rfl,u,a⟩,λ_=>rfl,k⟩
end
section
variable{main:Bool}{ai:Type}{S:Sys ai}{s:ai}{h:ae}
def ape:bz pv 124=J:=O
def apf:bz pv 43=J:=O
def apg:bz pv 82=J:=O
def aph{v:o5}{l:List (List UInt8)}{m:List UInt8}(E:fW h v l)(L:l.length<=100000):bo pv main S 124 #[v,au m] s h λH h' z=>H=s/\h'=h/\∃r:Int,z=.int .i64 r/\(0<=r↔m∈l):=by
 refine bL (args:=[v,au m]) Tryz.func124 (by delta Tryz.f124;rfl) Tryz.ntmps124 Y O ?_;obtain⟨b,o,n,c,rfl,t,hb⟩:=E;simp only[atJ]at t;subst t;simp only[ah,seval];refine du (I:=λk e d u a=>∃i:Nat,k=l.length- i/\i<=l.length/\e 0=.slice b l.length c/\e 1=au m/\e 5=.int .i64 i/\d=[]/\u=s/\a=h/\m∉l.take i) (λk e d u a F=> ?_) (m:=l.length) ⟨0,Y,Y,atA,atA,atA,rfl,rfl,rfl,Y⟩;obtain⟨i,rfl,hi,e0,K,j,rfl,rfl,rfl,g⟩:=F;have y:e 1=.string ⟨⟨m⟩⟩:=K;rcases vy i l.length with hc|hc
 .obtain⟨M,rfl,arr,q,f,w,A,G⟩:=hb.resolve_left U;have p:arr[o+i]? =C (.string ⟨⟨l[i]⟩⟩):=by simpa using G i [au l[i]] (by simp[hc]) 0 _ rfl
  have bd:decide ((i:Int)<l.length)=J:=atB
  have B:l.take (i+1)=l.take i++[l[i]]:=by rw[atC];simp[hc]
  have D:l[i]∈l:=N0 hc;generalize l[i]=x at p B D;cases a:(x==m)with
  |false=>
   simp only[ah,seval,e0,y,j,bd,A,p,gg,a];refine⟨l.length- (i+1),U,i+1,rfl,U,by simp[cq (x:=(i:Int)+1) U U],?_⟩;rw[B];intro q;rcases D3.1 q with q|q
   .exact g q
   .rw[auJ.1 q]at a;simp at a
  |true=>simp only[ah,seval,e0,y,j,bd,A,p,gg,a];exact bu aCy Y ⟨rfl,rfl,i,atA,λ_=>(beq_iff_eq.1 a)▸D,λ_=>by omega⟩
 .have:i=l.length:=U
  subst this;rw[N3]at g;simp only[ah,seval,e0,j,decide_eq_false (U:¬((l.length:Nat):Int)<l.length)];exact bu aCy Y ⟨rfl,rfl,-1,atA,λq=>by omega,λq=>(g q).elim⟩
def fW.take{m o n g k a p:Nat}{l:List (List UInt8)}(q:fW h (dn m o n g) l)(A:k<=n)(s:0<k->a=o):fW h (dn m a k p) (l.take k):=by
 obtain⟨b,B,bK,c,e,d,hb⟩:=q;cases e;simp only[atJ]at d;subst d;refine⟨_,a,_,_,rfl,atB,?_⟩;rcases Nat.eq_zero_or_pos k with q|q
 .exact .inl q
 rcases hb with r|⟨dG,e,arr,t,f,w',y,u⟩
 .omega
 cases e;rw[s q];refine .inr ⟨m,rfl,arr,t,f,w',y,λi z hi j x v=>u i z ?_ j x v⟩;rw[List.map_take]at hi;have w:i<k:=by have:=(F1.1 hi).1;simp at this;omega
 rwa [azb w]at hi
def wN(t:List UInt8):List (List UInt8):=if(cz 10 t).getLast? =C []then(cz 10 t).dropLast else cz 10 t
def api{t:List UInt8}(r:t.length<=90000):bo pv main S 43 #[au t] s h λE h' v=>E=s/\h.ar h'/\(∃a n c,v=.slice a n c)/\fW h' v (wN t):=by
 refine bL (args:=[au t]) Tryz.func43 (by delta Tryz.f43;rfl) Tryz.ntmps43 Y O ?_;simp only[ah,seval];refine cd VE (VF (w:=10) r) λL M v ⟨u,i,a,n,c,e,F,d,G⟩=> ?_;subst u;subst e;have H:=uT (w:=10) (l:=t);have I:t.count 10<=t.length:=aya;obtain⟨b,o,N,bJ,e,j,hb⟩:=id d;cases e;simp only[atJ]at j;subst j;obtain⟨m,e,arr,ty,f,K,p,y⟩:=hb.resolve_left U;cases e;have k:(cz 10 t).length- 1<(cz 10 t).length:=U
 have g:arr[(cz 10 t).length- 1]? =C (.string ⟨⟨(cz 10 t)[(cz 10 t).length- 1]⟩⟩):=by simpa using y ((cz 10 t).length- 1) [au ((cz 10 t)[(cz 10 t).length- 1])] (by simp[k]) 0 _ rfl
 have q:xy.wrap (((cz 10 t).length:Int)- 1)=(((cz 10 t).length- 1:Nat):Int):=by rw[cq U U];omega
 have bd:decide ((((cz 10 t).length- 1:Nat):Int)<(cz 10 t).length)=J:=atB
 have A:(cz 10 t).getLast? =C (cz 10 t)[(cz 10 t).length- 1]:=by rw[List.getLast?_eq_getElem?,Q4 k]
 have B:(cz 10 t).dropLast=(cz 10 t).take ((cz 10 t).length- 1):=List.dropLast_eq_take;unfold wN;rw[A,B];generalize(cz 10 t)[(cz 10 t).length- 1]=z at g;cases z with
 |nil=>simp only[ah,seval,q,bd,p,g,gg];refine Va (l:=0) (hh:=(cz 10 t).length- 1) au4 jC (.inl ⟨_,rfl,U⟩) (.inr ⟨rfl,rfl⟩) U λP D=> ?_;simp only[ah,seval];refine bu aCA Y ⟨rfl,i,⟨_,_,_,rfl⟩,?_⟩;exact d.take U λQ=>by have:=D U;omega
 |cons x z=>simp only[ah,seval,q,bd,p,g,gg,(atz:((x::z)==([]:List UInt8))=q9)];refine bu aCA Y ⟨rfl,i,⟨_,_,_,rfl⟩,?_⟩;rw[if_neg Y];simpa[ak]using d
def apj{l:List UInt8}(B:l.length<=90000):bo pv main S 82 #[au l] s h λL h' z=>L=s/\h.ar h'/\(([]:List UInt8)∈cz 32 l/\z=.tuple #[au [],.slice o0 0 0,.bool q9]\/[]∉cz 32 l/\∃f fs m o n i,cz 32 l=f::fs/\z=.tuple #[au f,dn m o n i,.bool J]/\n<=i/\fW h' (dn m o n i) fs):=by
 refine bL (args:=[au l]) Tryz.func82 (by delta Tryz.f82;rfl) Tryz.ntmps82 Y O ?_;simp only[ah,seval];refine cd VE (VF (w:=32) B) λX h2 v ⟨j,k,a,n,c,e,p,d,P⟩=> ?_;subst j;subst e;have u:=uT (w:=32) (l:=l);have Q:l.count 32<=l.length:=aya;simp only[ah,seval];refine cd ape (aph (m:=[]) d U) λfe M z ⟨j,D,r,E,x⟩=> ?_;subst j;subst D;subst E;cases g:decide (r>=0)with
 |true=>simp only[ah,seval,g];exact tC aCB Y Y Y ⟨rfl,k,.inl ⟨x.1 (by simpa using g),atA⟩⟩
 |false=>
  have y:[]∉cz 32 l:=λq=>by have:=x.2 q;simp at g;omega
  cases hs:cz 32 l with
  |nil=>rw[hs]at u;simp at u
  |cons f fs=>
  rw[hs]at d y;have F:=d.tail p;obtain⟨b,o,n',bJ,e,G,hb⟩:=id d;cases e;simp only[atJ,RF]at G;obtain⟨dG,e,arr,ty,R,W,H,I⟩:=hb.resolve_left U;cases e;have N:arr[0]? =C (au f):=by simpa using I 0 [au f] Y 0 _ rfl
  have K:∀h,M.ar h->h a=_:=λh le=>le _ _ H;have bd:decide ((0:Int)<(n:Int))=J:=atB
  simp only[ah,seval,g,fI];intro t;refine VP eR O O O O ?_ t
  repeat refine gF (λh1 le=>by simp only[ah,seval,cJ,le,K,N,bd];exact⟨λ_ _ q=>q,rfl⟩) ?_
  refine gF (v:=dn a (if c=1 then 0 else 0+1) (n- 1) (c- 1)) (λh1 le=> ?_) ?_
  .simp only[ah,seval,cJ];exact FQ (l:=1) au4 jC U p ⟨rfl,.cO _,rfl⟩
  repeat refine gF (λh1 le=>by simp only[ah,seval,cJ];exact⟨λ_ _ q=>q,rfl⟩) ?_
  rw[jN];intro h4 A;simp only[ah,seval];exact tC aCB Y Y Y ⟨rfl,k.ay A,.inr ⟨y,f,fs,a,_,_,_,rfl,atA,U,F.le A⟩⟩
end
def dZ{α:Type}(f:List UInt8->Option α):List (List UInt8)->Option (List α)
 | []=>C []
 |x::l=>match f x with
  |none=>o0
  |some a=>(dZ f l).map (a:: ·)
section
variable{main:Bool}{ai:Type}{S:Sys ai}{s:ai}{h:ae}
def VT:bz pv 83=J:=O
def VU{v:o5}{l:List (List UInt8)}(Q:fW h v l)(hl:l.length<=90000)(R:∀f∈l,f.length<=90000):bo pv main S 83 #[v] s h λs' h' z=>s'=s/\h.ar h'/\(dZ dP l=o0/\z=.tuple #[.slice o0 0 0,.bool q9]\/∃ns a n c,dZ dP l=C ns/\z=.tuple #[.slice a n c,.bool J]/\iZ h' (.slice a n c) ns/\∀A,a=C A->h A.block=o0):=by
 refine bL (args:=[v]) Tryz.func83 (by delta Tryz.f83;rfl) Tryz.ntmps83 Y O ?_;obtain⟨b,o,n,c,rfl,E,hb⟩:=Q;simp only[atJ]at E;subst E;simp only[ah,seval];refine du (I:=λk e d F u=>∃i w B ns,k=l.length- i/\i<=l.length/\e 0=.slice b l.length c/\e 5=.int .i64 i/\e 4=w/\d=[]/\F=s/\h.ar u/\(∀d,B=C d->h d=o0)/\eB u w 3 1 (ns.map FP) B/\ns.length=i/\dZ dP l=(dZ dP (l.drop i)).map (ns++ ·)) (λk e d F u W=> ?_) (m:=l.length) ⟨0,.slice o0 0 0,o0,[],Y,Y,atA,atA,atA,rfl,rfl,λ_ _ q=>q,(λ_ q=>by cases q),.nil,rfl,Y⟩;obtain⟨i,w,B,ns,rfl,hi,e0,D,N,rfl,rfl,g,p,q,X,j⟩:=W;obtain⟨a1,bK,c1,rfl⟩:=q.slice;rcases vy i l.length with hc|hc
 .obtain⟨mb,rfl,arr,q',f,w',hm,hr⟩:=hb.resolve_left U;have P:arr[o+i]? =C (au l[i]):=by simpa using hr i [au l[i]] (by simp[hc]) 0 _ rfl
  have gm:=g _ _ hm;have bd:decide ((i:Int)<l.length)=J:=atB
  have hd:l.drop i=l[i]::l.drop (i+1):=atQ hc;have G:=R _ (N0 hc);generalize l[i]=x at P hd G;simp only[ah,seval,e0,D,gm,P,bd];refine cd FI (FK G) λs2 h2 z ⟨q1,q2,q3⟩=> ?_;subst q1;subst q2;subst q3;cases H:dP x with
  |none=>simp only[ah,seval,dg,Option.isSome_none];exact gT aCC Y Y ⟨rfl,g,.inl ⟨by rw[j,hd];simp[dZ,H],atA⟩⟩
  |some a=>
   simp only[ah,seval,dg,Option.getD_some,N];refine VA λc3 h4 K t=> ?_;have L:=bU K t;have g4:=bw t;simp only[ah,seval];refine pX (row:=FP a) aw7 fe VC eZ rfl aty aty aty (uV (h0:=h) q K t) rfl rfl atB (by rw[iX g4];rfl) λbn h5 a6 k1 k2 M=> ?_;obtain⟨a2,bR,c2,rfl⟩:=M.slice;simp only[ah,seval,D];refine⟨l.length- (i+1),U,i+1,.slice a2 bR c2,a6,ns++[a],rfl,U,e0,by simp[cq (x:=(i:Int)+1) U U],rfl,λd y hd=>k1 _ _ (λe=>by have:=p d e;rw[this]at hd;cases hd) (L _ _ (g _ _ hd)),λd hd=> ?_,by rw[auu];exact M,by simp[X],by rw[j,hd];simp only[dZ,H,Option.map_map];congr 1;funext r;simp⟩;rcases k2 with r|⟨bG,r,a8⟩
   .exact p d (r▸hd)
   .rw[r]at hd;cases hd;exact fh (g.ay L) a8
 .have:i=l.length:=U
  subst this;rw[List.drop_length]at j;simp only[ah,seval,e0,D,N,decide_eq_false (U:¬((l.length:Nat):Int)<l.length)];exact gT aCC Y Y ⟨rfl,g,.inr ⟨ns,a1,bK,c1,by rw[j];simp[dZ],atA,⟨q.at,q.ty⟩,λA aI=>q.fresh p A aI⟩⟩
end
end
end Go.Nk
