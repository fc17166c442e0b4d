/- Part Pay of the proof of ButtTexts: lemmas. -/
import Derived.Test.YthgephlghkjiaaaGreatDoorPax
set_option maxRecDepth 100000
set_option maxHeartbeats 4000000
set_option linter.all false
namespace Go.Nk
noncomputable section
open Go Go.Conc Go.Proofs
open Bool renaming true->J,false->q9,and_eq_true->vh,or_eq_true->auU,false_ne_true->W3
open Go renaming Addr->vm,Value->o5,Oper->sa,Deferred->tc
open Go.Builtin renaming append_->auY
open Go.Instr renaming buildSlice->atX
open Go.Proofs.Tryz renaming prog->pv,underlying22->ay3,underlying23->ay2,underlying26->ay7,underlying27->aAR,results85->aCJ,results84->aAT,results45->azj
open Go.Region renaming binds->atV,schedule->atM,wanted->R9
open List renaming mem_append->D3,getElem?_append_left->avE,getElem?_append_right->axh,map_append->auu,mem_cons->B4,length_cons->RF,length_nil->auM,map_cons->atS,getLast?_cons_of_ne_nil->aAS,dropLast_cons_of_ne_nil->ayc,mem_singleton->auJ,range->atG,getElem?_eq_some_iff->F1,all_eq_true->G0,mem_range->au9,drop_eq_getElem_cons->atQ,getElem?_eq_none->au6,drop_of_length_le->av5
open Nat renaming lt_or_ge->vy,ble->vd,blt->Kf,le_of_ble_eq_true->at4,le_refl->vr
open Option renaming none->o0,some->C,mem_toList->awl,mem_def->azi,bind_eq_some_iff->auK
def aZ(h0:ae)(M:List Nat)(h:ae):ae:=λb=>if b∈M\/(h0 b).isSome=J then o0 else h b
def Nq{h0:ae}{M:List Nat}{h:ae}:(aZ h0 M h).ar h:=λb x a=>by
 unfold aZ at a;split at a
 .cases a
 .exact a
def Nr{h0:ae}{M:List Nat}{h:ae}{c:Nat}{x:dL}(hc:c∈M):aZ h0 M (h.put c x)=aZ h0 M h:=by
 funext b;unfold aZ;by_cases e:b=c
 .subst e;simp[hc]
 .rw[bx e]
def Bm{h0:ae}{M c:List Nat}{h h':ae}(g:∀d x,d∉M->h d=C x->h' d=C x)(f:∀d,d∈c->d∈M\/h d=o0):(aZ h0 M h).ar (aZ h0 c h'):=λb x a=>by
 unfold aZ at a ⊢;by_cases e:b∈M\/(h0 b).isSome=J
 .rw[if_pos e]at a;cases a
 .rw[if_neg e]at a;rw[if_neg (λq=>q.elim (λq=>(f b q).elim (λr=>e (.inl r)) λr=>by rw[r]at a;cases a) λq=>e (.inr q))];exact g b x (λq=>e (.inl q)) a
def FY{h0:ae}{M:List Nat}{h:ae}{a:Option vm}{n c d:Nat}{rows:List (List o5)}(q:dE h (.slice a n c) d rows)(k:∀A,a=C A->A.block∉M/\h0 A.block=o0):dE (aZ h0 M h) (.slice a n c) d rows:=by obtain⟨b,o,r,bJ,e,g,hb⟩:=q;cases e;refine⟨_,o,_,_,rfl,g,hb.imp id λ⟨m,e,arr,q,f,w,l,i⟩=>⟨m,e,arr,q,f,w,?_,i⟩⟩;subst e;obtain⟨p,j⟩:=k _ rfl;unfold aZ;rw[if_neg (λq=>q.elim p λq=>by rw[j]at q;cases q)];exact l
def FZ{h0:ae}{M:List Nat}{h:ae}{a:Option vm}{n c t:Nat}(q:uU h (.slice a n c) t)(k:∀A,a=C A->A.block∉M/\h0 A.block=o0):uU (aZ h0 M h) (.slice a n c) t:=λA d bJ e=>by obtain⟨arr,f,w,g⟩:=q A d bJ e;cases e;obtain⟨i,b⟩:=k _ rfl;refine⟨arr,f,w,?_⟩;unfold aZ;rw[if_neg (λq=>q.elim i λq=>by rw[b]at q;cases q)];exact g
def eB.own{h:ae}{sl:o5}{a c b:Nat}{rows:List (List o5)}(q:eB h sl a c rows (C b)):∃arr,h b=C ⟨.cells arr a (0,0),J⟩:=by
 rcases q with⟨e,_⟩|⟨bG,d,arr,e,_,hb,_⟩
 .cases e
 .cases e;exact⟨arr,hb⟩
def eB.ne{h:ae}{sl f:o5}{c a l g b bG:Nat}{rows i:List (List o5)}(q:eB h sl c l rows (C b))(j:eB h f a g i (C bG))(k:c≠a):b≠bG:=λe=>by subst e;obtain⟨_,h1⟩:=q.own;obtain⟨_,d⟩:=j.own;rw[h1]at d;cases d;exact k rfl
def sg(v:o5):List o5:=[v]
def wO(s:fU):List o5:=[au s.name,bO s.cX,bO s.size,bO s.gS]
def wP(s:fV):List o5:=[au s.name,bO s.size,bO s.ff,bO s.cX]
structure fr(h0 h:ae)(B M:List Nat)(aW sv bT bV:o5)(x:bY)(y:Ground):Prop where
 cH:∀d∈B,∃z,h d=C z
 ex:∃vs us ao fi gC fj,M=B++(ao.toList++(fi.toList++(gC.toList++fj.toList)))/\(∀d,ao=C d\/fi=C d\/gC=C d\/fj=C d->d∉B)/\eB h aW 46 1 (vs.map sg) ao/\eB h sv 49 1 (us.map sg) fi/\eB h bT 51 4 (y.db.map wO) gC/\eB h bV 53 4 (y.c7.map wP) fj/\
  qS (iZ (aZ h0 M h)) vs x.b2/\qS (jD (aZ h0 M h)) us x.cf
def fr.lt{h0 h:ae}{B M:List Nat}{aW sv bT bV:o5}{x:bY}{y:Ground}(q:fr h0 h B M aW sv bT bV x y):∀d∈M,∃z,h d=C z:=by
 obtain⟨g,i,j,ao,k,l,m,rfl,_,a,b,c,f,_⟩:=q;intro d hd;simp only[D3,awl]at hd;rcases hd with r|r|r|r|r
 .exact g d r
 .rw[azi.1 r]at a;obtain⟨arr,e⟩:=a.own;exact⟨_,e⟩
 .rw[azi.1 r]at b;obtain⟨arr,e⟩:=b.own;exact⟨_,e⟩
 .rw[azi.1 r]at c;obtain⟨arr,e⟩:=c.own;exact⟨_,e⟩
 .rw[azi.1 r]at f;obtain⟨arr,e⟩:=f.own;exact⟨_,e⟩
def fr.sub{h0 h:ae}{B M:List Nat}{aW sv bT bV:o5}{x:bY}{y:Ground}(q:fr h0 h B M aW sv bT bV x y):∀d∈B,d∈M:=by obtain⟨a,b,c,ao,e,f,g,rfl,_⟩:=q;intro d hd;simp[hd]
def fr.le{h0 h h':ae}{B M:List Nat}{aW sv bT bV:o5}{x:bY}{y:Ground}(q:fr h0 h B M aW sv bT bV x y)(le:h.ar h'):fr h0 h' B M aW sv bT bV x y:=by have w:=q.lt;obtain⟨o,p,s,ao,t,u,v,f,g,i,j,k,l,m,n⟩:=q;have c:(aZ h0 M h).ar (aZ h0 M h'):=Bm (λd z _ a=>le d z a) λd hd=>.inl hd;exact⟨λd hd=>let⟨z,e⟩:=o d hd;⟨z,le _ _ e⟩,p,s,ao,t,u,v,f,g,i.keep λb z _ a=>le b z a,j.keep λb z _ a=>le b z a,k.keep λb z _ a=>le b z a,l.keep λb z _ a=>le b z a,m.imp λ_ _ r=>iZ.le c r,n.imp λ_ _ r=>jD.le c r⟩
def fr.put{h0 h:ae}{B M:List Nat}{aW sv bT bV:o5}{x:bY}{y:Ground}{c:Nat}{z:dL}(q:fr h0 h B M aW sv bT bV x y)(hc:c∈B):fr h0 (h.put c z) B M aW sv bT bV x y:=by
 have g:=q.sub c hc;obtain⟨p,r,s,ao,t,u,v,i,f,j,k,l,m,n,o⟩:=q;have cP:∀b w,b∉B->h b=C w->(h.put c z) b=C w:=λb w hb a=>by rw[bx (λe=>hb (by rw[e];exact hc))];exact a
 refine⟨λd hd=> ?_,r,s,ao,t,u,v,i,f,j.keep λb w hb a=>cP b w (f b (.inl hb)) a,k.keep λb w hb a=>cP b w (f b (.inr (.inl hb))) a,l.keep λb w hb a=>cP b w (f b (.inr (.inr (.inl hb)))) a,m.keep λb w hb a=>cP b w (f b (.inr (.inr (.inr hb)))) a,by rw[Nr g];exact n,by rw[Nr g];exact o⟩;by_cases e:d=c
 .subst e;exact⟨_,cI⟩
 .rw[bx e];exact p d hd
def fr.mG{h0 h:ae}{B M:List Nat}{aW sv bT bV:o5}{x x':bY}{y:Ground}(q:fr h0 h B M aW sv bT bV x y)(e1:x'.b2=x.b2)(e2:x'.cf=x.cf):fr h0 h B M aW sv bT bV x' y:=by obtain⟨j,k,l,ao,m,n,o,a,b,c,d,e,f,g,i⟩:=q;exact⟨j,k,l,ao,m,n,o,a,b,c,d,e,f,by rw[e1];exact g,by rw[e2];exact i⟩
def fr.start{h0 h:ae}{B:List Nat}(c:∀d∈B,∃z,h d=C z){a b:Int}:fr h0 h B B (.slice o0 0 0) (.slice o0 0 0) (.slice o0 0 0) (.slice o0 0 0) ⟨[],[],a,b⟩ ⟨[],[]⟩:=⟨c,[],[],o0,o0,o0,o0,Y,Y,.nil,.nil,.nil,.nil,⟨rfl,Y⟩,rfl,Y⟩
def qS.snoc{α β:Type}{R:α->β->Prop}{l:List α}{m:List β}{x:α}{y:β}(q:qS R l m)(r:R x y):qS R (l++[x]) (m++[y]):=by
 obtain⟨h1,e⟩:=q;refine⟨by simp[h1],λi a b c hb=> ?_⟩;rcases vy i l.length with hi|hi
 .rw[avE hi]at c;rw[avE U]at hb;exact e i a b c hb
 .rw[axh hi]at c;rw[axh U,<- h1]at hb;cases d:i- l.length with
  |zero=>rw[d]at c hb;simp at c hb;subst c;subst hb;exact r
  |succ k=>rw[d]at c;simp at c
def Wi:cu pv 46=C 1:=O
def Wj:cu pv 49=C 1:=O
def Wk:cu pv 53=C 4:=O
def apM:l1 pv 46=C 24:=O
def apN:l1 pv 49=C 24:=O
def apO:l1 pv 51=C 40:=O
def apP:l1 pv 53=C 40:=O
def Wl:fw pv 46=C (.agg #[.slice o0 0 0]):=O
def Wm:fw pv 49=C (.agg #[.slice o0 0 0]):=O
def Wn:fw pv 53=C (.agg #[.string .empty,.int .i64 0,.int .i64 0,.int .i64 0]):=O
def Wo:(Array.range (1*1)).map (λi=>(Value.cells (.agg #[.slice o0 0 0]))[i%(Value.cells (.agg #[.slice o0 0 0])).size]!)=#[.slice o0 0 0]:=O
def Wp:(Array.range (1*4)).map (λi=>(Value.cells (.agg #[.string .empty,.int .i64 0,.int .i64 0,.int .i64 0]))[i%(Value.cells (.agg #[.string .empty,.int .i64 0,.int .i64 0,.int .i64 0])).size]!)=#[.string .empty,.int .i64 0,.int .i64 0,.int .i64 0]:=O
def Wq{h:ae}{a:Option vm}{n m:Nat}{K:o5->ae->Prop}(k:∀c h1,h c=o0->h1=h.put c ⟨.cells ⟨sg (.slice a n m)⟩ 46 (0,0),J⟩->K (dn c 0 1 1) h1):@al pv _ (atX 22 1 #[(0,.agg #[.slice a n m])]) h ⟨K⟩:=by simp only[al,atX,aJ,c0,ay3,gD,Wi];rw[if_neg aty,if_neg aty];simp only[aJ,kH,Wl,aR,Wo];intro c hc;exact k c _ hc rfl
def Wr{h:ae}{a:Option vm}{n m:Nat}{K:o5->ae->Prop}(k:∀c h1,h c=o0->h1=h.put c ⟨.cells ⟨sg (.slice a n m)⟩ 49 (0,0),J⟩->K (dn c 0 1 1) h1):@al pv _ (atX 23 1 #[(0,.agg #[.slice a n m])]) h ⟨K⟩:=by simp only[al,atX,aJ,c0,ay2,gD,Wj];rw[if_neg aty,if_neg aty];simp only[aJ,kH,Wm,aR,Wo];intro c hc;exact k c _ hc rfl
def Ws{h:ae}{w:fU}{K:o5->ae->Prop}(k:∀c h1,h c=o0->h1=h.put c ⟨.cells ⟨wO w⟩ 51 (0,0),J⟩->K (dn c 0 1 1) h1):@al pv _ (atX 26 1 #[(0,.agg #[.string ⟨⟨w.name⟩⟩,.int .i64 w.cX,.int .i64 w.size,.int .i64 w.gS])]) h ⟨K⟩:=by simp only[al,atX,aJ,c0,ay7,gD,LR];rw[if_neg aty,if_neg aty];simp only[aJ,kH,Mn,aR,Wp];intro c hc;exact k c _ hc rfl
def Wt{h:ae}{w:fV}{K:o5->ae->Prop}(k:∀c h1,h c=o0->h1=h.put c ⟨.cells ⟨wP w⟩ 53 (0,0),J⟩->K (dn c 0 1 1) h1):@al pv _ (atX 27 1 #[(0,.agg #[.string ⟨⟨w.name⟩⟩,.int .i64 w.size,.int .i64 w.ff,.int .i64 w.cX])]) h ⟨K⟩:=by simp only[al,atX,aJ,c0,aAR,gD,Wk];rw[if_neg aty,if_neg aty];simp only[aJ,kH,Wn,aR,Wp];intro c hc;exact k c _ hc rfl
section
variable{h0 h:ae}{B M:List Nat}{aW sv bT bV:o5}{x:bY}{y:Ground}{bE qX ty:Nat}{K:o5->ae->Prop}
def Wu(q:fr h0 h B M aW sv bT bV x y)(hl:x.b2.length<=90000){a:Option vm}{n c:Nat}{ns:List Int}(hi:iZ h (.slice a n c) ns)(D:∀A,a=C A->A.block∉M/\h0 A.block=o0)(W:h.iS ⟨bE,0,o0⟩ 0 (1*1)=C (sg (.slice a n c)))
  (k:∀hx h' L,fr h0 h' B L hx sv bT bV {x with b2:=x.b2++[ns]} y->(∀d z,d∉M->h d=C z->h' d=C z)->(∀d,d∈L->d∈M\/h d=o0)->(∀d∈B,h' d=h d)->(∃a n c,hx=.slice a n c)->K hx h'):
  @al pv _ (auY #[22,22] ty #[aW,dn bE 0 1 qX]) h ⟨K⟩:=by
 have ad:=q.lt;obtain⟨v,N,X,ao,m,o,p,t,g,j,E,F,G,H,S⟩:=q;have af:(N.map sg).length<=90000:=by simp;have:=H.1;omega
 refine pX (row:=sg (.slice a n c)) ay3 Wi apM Wl rfl aty aty aty j rfl rfl U W λhx h' l i I P=> ?_;have out:∀d z,d∉M->h d=C z->h' d=C z:=λd z hd f=>i d z (λe=>hd (by rw[t,e];simp)) f;have Q:∀d,d∈B++(l.toList++(m.toList++(o.toList++p.toList)))->d∈M\/h d=o0:=λd hd=>by
  rcases I with e|⟨bG,e,u⟩
  .rw[e,<- t]at hd;exact .inl hd
  .simp only[D3,awl]at hd;rw[t];simp only[D3,awl];rcases hd with r|r|r|r|r
   .exact .inl (.inl r)
   .rw[e]at r;cases r;exact .inr u
   .exact .inl (.inr (.inr (.inl r)))
   .exact .inl (.inr (.inr (.inr (.inl r))))
   .exact .inl (.inr (.inr (.inr (.inr (r)))))
 have R:∀d∈B,h' d=h d:=λd hd=>by obtain⟨z,f⟩:=v d hd;rw[f];exact i d z (λe=>g d (.inl e) hd) f
 have w:(aZ h0 M h).ar (aZ h0 (B++(l.toList++(m.toList++(o.toList++p.toList)))) h'):=Bm out Q;refine k hx h' (B++(l.toList++(m.toList++(o.toList++p.toList)))) ⟨λd hd=>by rw[R d hd];exact v d hd,N++[.slice a n c],X,l,m,o,p,rfl,λd hd=> ?_,?_,?_,?_,?_,?_,?_⟩ out Q R P.slice
 .rcases hd with e|e|e|e
  .rcases I with s|⟨bG,s,u⟩
   .exact g d (.inl (s▸e))
   .rw[e]at s;cases s;exactλhd=>by obtain⟨z,f⟩:=v d hd;rw[u]at f;cases f
  .exact g d (.inr (.inl e))
  .exact g d (.inr (.inr (.inl e)))
  .exact g d (.inr (.inr (.inr e)))
 .rw[auu];exact P
 .exact E.keep λb z hb f=>i b z (λe=>by subst e;subst hb;exact eB.ne j E aty rfl) f
 .exact F.keep λb z hb f=>i b z (λe=>by subst e;subst hb;exact eB.ne j F aty rfl) f
 .exact G.keep λb z hb f=>i b z (λe=>by subst e;subst hb;exact eB.ne j G aty rfl) f
 .exact(H.imp λ_ _ r=>iZ.le w r).snoc (iZ.le w ⟨FY hi.1 D,FZ hi.2 D⟩)
 .exact S.imp λ_ _ r=>jD.le w r
def Wv(q:fr h0 h B M aW sv bT bV x y)(hl:x.cf.length<=90000){a:Option vm}{n c:Nat}{ns:List (Int×Int)}(hi:jD h (.slice a n c) ns)(D:∀A,a=C A->A.block∉M/\h0 A.block=o0)(W:h.iS ⟨bE,0,o0⟩ 0 (1*1)=C (sg (.slice a n c)))
  (k:∀g h' L,fr h0 h' B L aW g bT bV {x with cf:=x.cf++[ns]} y->(∀d z,d∉M->h d=C z->h' d=C z)->(∀d,d∈L->d∈M\/h d=o0)->(∀d∈B,h' d=h d)->(∃a n c,g=.slice a n c)->K g h'):
  @al pv _ (auY #[23,23] ty #[sv,dn bE 0 1 qX]) h ⟨K⟩:=by
 have ad:=q.lt;obtain⟨v,X,N,ao,ag,o,p,t,i,E,l,F,G,S,H⟩:=q;have af:(N.map sg).length<=90000:=by simp;have:=H.1;omega
 refine pX (row:=sg (.slice a n c)) ay2 Wj apN Wm rfl aty aty aty l rfl rfl U W λg h' m j I P=> ?_;have out:∀d z,d∉M->h d=C z->h' d=C z:=λd z hd f=>j d z (λe=>hd (by rw[t,e];simp)) f;have Q:∀d,d∈B++(ao.toList++(m.toList++(o.toList++p.toList)))->d∈M\/h d=o0:=λd hd=>by
  rcases I with e|⟨bG,e,u⟩
  .rw[e,<- t]at hd;exact .inl hd
  .simp only[D3,awl]at hd;rw[t];simp only[D3,awl];rcases hd with r|r|r|r|r
   .exact .inl (.inl r)
   .exact .inl (.inr (.inl r))
   .rw[e]at r;cases r;exact .inr u
   .exact .inl (.inr (.inr (.inr (.inl r))))
   .exact .inl (.inr (.inr (.inr (.inr (r)))))
 have R:∀d∈B,h' d=h d:=λd hd=>by obtain⟨z,f⟩:=v d hd;rw[f];exact j d z (λe=>i d (.inr (.inl e)) hd) f
 have w:(aZ h0 M h).ar (aZ h0 (B++(ao.toList++(m.toList++(o.toList++p.toList)))) h'):=Bm out Q;refine k g h' (B++(ao.toList++(m.toList++(o.toList++p.toList)))) ⟨λd hd=>by rw[R d hd];exact v d hd,X,N++[.slice a n c],ao,m,o,p,rfl,λd hd=> ?_,?_,?_,?_,?_,?_,?_⟩ out Q R P.slice
 .rcases hd with e|e|e|e
  .exact i d (.inl e)
  .rcases I with s|⟨bG,s,u⟩
   .exact i d (.inr (.inl (s▸e)))
   .rw[e]at s;cases s;exactλhd=>by obtain⟨z,f⟩:=v d hd;rw[u]at f;cases f
  .exact i d (.inr (.inr (.inl e)))
  .exact i d (.inr (.inr (.inr e)))
 .exact E.keep λb z hb f=>j b z (λe=>by subst e;subst hb;exact eB.ne l E aty rfl) f
 .rw[auu];exact P
 .exact F.keep λb z hb f=>j b z (λe=>by subst e;subst hb;exact eB.ne l F aty rfl) f
 .exact G.keep λb z hb f=>j b z (λe=>by subst e;subst hb;exact eB.ne l G aty rfl) f
 .exact S.imp λ_ _ r=>iZ.le w r
 .exact(H.imp λ_ _ r=>jD.le w r).snoc (jD.le w ⟨FY hi.1 D,FZ hi.2 D⟩)
def Ww(q:fr h0 h B M aW sv bT bV x y)(X:y.db.length<=90000){w:fU}(R:h.iS ⟨bE,0,o0⟩ 0 (1*4)=C (wO w))
  (k:∀g h' G,fr h0 h' B G aW sv g bV x {y with db:=y.db++[w]}->(∀d z,d∉M->h d=C z->h' d=C z)->(∀d,d∈G->d∈M\/h d=o0)->(∀d∈B,h' d=h d)->(∃a n c,g=.slice a n c)->K g h'):
  @al pv _ (auY #[26,26] ty #[bT,dn bE 0 1 qX]) h ⟨K⟩:=by
 have ab:=q.lt;obtain⟨v,S,W,ao,o,af,p,t,i,A,D,m,E,P,Q⟩:=q;have ad:(y.db.map wO).length<=90000:=atB
 refine pX (row:=wO w) ay7 LR apO Mn rfl aty aty aty m rfl rfl U R λg h' j l F H=> ?_;have out:∀d z,d∉M->h d=C z->h' d=C z:=λd z hd f=>l d z (λe=>hd (by rw[t,e];simp)) f;have I:∀d,d∈B++(ao.toList++(o.toList++(j.toList++p.toList)))->d∈M\/h d=o0:=λd hd=>by
  rcases F with e|⟨bG,e,u⟩
  .rw[e,<- t]at hd;exact .inl hd
  .simp only[D3,awl]at hd;rw[t];simp only[D3,awl];rcases hd with r|r|r|r|r
   .exact .inl (.inl r)
   .exact .inl (.inr (.inl r))
   .exact .inl (.inr (.inr (.inl r)))
   .rw[e]at r;cases r;exact .inr u
   .exact .inl (.inr (.inr (.inr (.inr (r)))))
 have L:∀d∈B,h' d=h d:=λd hd=>by obtain⟨z,f⟩:=v d hd;rw[f];exact l d z (λe=>i d (.inr (.inr (.inl e))) hd) f
 have N:(aZ h0 M h).ar (aZ h0 (B++(ao.toList++(o.toList++(j.toList++p.toList)))) h'):=Bm out I;refine k g h' (B++(ao.toList++(o.toList++(j.toList++p.toList)))) ⟨λd hd=>by rw[L d hd];exact v d hd,S,W,ao,o,j,p,rfl,λd hd=> ?_,?_,?_,?_,?_,?_,?_⟩ out I L H.slice
 .rcases hd with e|e|e|e
  .exact i d (.inl e)
  .exact i d (.inr (.inl e))
  .rcases F with s|⟨bG,s,u⟩
   .exact i d (.inr (.inr (.inl (s▸e))))
   .rw[e]at s;cases s;exactλhd=>by obtain⟨z,f⟩:=v d hd;rw[u]at f;cases f
  .exact i d (.inr (.inr (.inr e)))
 .exact A.keep λb z hb f=>l b z (λe=>by subst e;subst hb;exact eB.ne m A aty rfl) f
 .exact D.keep λb z hb f=>l b z (λe=>by subst e;subst hb;exact eB.ne m D aty rfl) f
 .show eB h' g 51 4 ((y.db++[w]).map wO) j;rw[auu];exact H
 .exact E.keep λb z hb f=>l b z (λe=>by subst e;subst hb;exact eB.ne m E aty rfl) f
 .exact P.imp λ_ _ r=>iZ.le N r
 .exact Q.imp λ_ _ r=>jD.le N r
def Wx(q:fr h0 h B M aW sv bT bV x y)(X:y.c7.length<=90000){w:fV}(R:h.iS ⟨bE,0,o0⟩ 0 (1*4)=C (wP w))
  (k:∀g h' G,fr h0 h' B G aW sv bT g x {y with c7:=y.c7++[w]}->(∀d z,d∉M->h d=C z->h' d=C z)->(∀d,d∈G->d∈M\/h d=o0)->(∀d∈B,h' d=h d)->(∃a n c,g=.slice a n c)->K g h'):
  @al pv _ (auY #[27,27] ty #[bV,dn bE 0 1 qX]) h ⟨K⟩:=by
 have ab:=q.lt;obtain⟨v,S,W,ao,o,p,af,t,i,A,D,E,m,P,Q⟩:=q;have ad:(y.c7.map wP).length<=90000:=atB
 refine pX (row:=wP w) aAR Wk apP Wn rfl aty aty aty m rfl rfl U R λg h' j l F H=> ?_;have out:∀d z,d∉M->h d=C z->h' d=C z:=λd z hd f=>l d z (λe=>hd (by rw[t,e];simp)) f;have I:∀d,d∈B++(ao.toList++(o.toList++(p.toList++j.toList)))->d∈M\/h d=o0:=λd hd=>by
  rcases F with e|⟨bG,e,u⟩
  .rw[e,<- t]at hd;exact .inl hd
  .simp only[D3,awl]at hd;rw[t];simp only[D3,awl];rcases hd with r|r|r|r|r
   .exact .inl (.inl r)
   .exact .inl (.inr (.inl r))
   .exact .inl (.inr (.inr (.inl r)))
   .exact .inl (.inr (.inr (.inr (.inl r))))
   .rw[e]at r;cases r;exact .inr u
 have L:∀d∈B,h' d=h d:=λd hd=>by obtain⟨z,f⟩:=v d hd;rw[f];exact l d z (λe=>i d (.inr (.inr (.inr e))) hd) f
 have N:(aZ h0 M h).ar (aZ h0 (B++(ao.toList++(o.toList++(p.toList++j.toList)))) h'):=Bm out I;refine k g h' (B++(ao.toList++(o.toList++(p.toList++j.toList)))) ⟨λd hd=>by rw[L d hd];exact v d hd,S,W,ao,o,p,j,rfl,λd hd=> ?_,?_,?_,?_,?_,?_,?_⟩ out I L H.slice
 .rcases hd with e|e|e|e
  .exact i d (.inl e)
  .exact i d (.inr (.inl e))
  .exact i d (.inr (.inr (.inl e)))
  .rcases F with s|⟨bG,s,u⟩
   .exact i d (.inr (.inr (.inr (s▸e))))
   .rw[e]at s;cases s;exactλhd=>by obtain⟨z,f⟩:=v d hd;rw[u]at f;cases f
 .exact A.keep λb z hb f=>l b z (λe=>by subst e;subst hb;exact eB.ne m A aty rfl) f
 .exact D.keep λb z hb f=>l b z (λe=>by subst e;subst hb;exact eB.ne m D aty rfl) f
 .exact E.keep λb z hb f=>l b z (λe=>by subst e;subst hb;exact eB.ne m E aty rfl) f
 .show eB h' g 53 4 ((y.c7++[w]).map wP) j;rw[auu];exact H
 .exact P.imp λ_ _ r=>iZ.le N r
 .exact Q.imp λ_ _ r=>jD.le N r
end
structure Acc where
 b:bY
 g:Ground
 jQ:Bool
 last:Int
def Acc.step(a:Acc):jE->Acc
 | .mG x y=>⟨⟨a.b.b2,a.b.cf,x,y⟩,a.g,a.jQ,1⟩
 | .nk ns=>⟨{a.b with b2:=a.b.b2++[ns]},a.g,a.jQ,2⟩
 | .nm bc=>⟨{a.b with cf:=a.b.cf++[bc]},a.g,a.jQ,3⟩
 | .ground=>⟨a.b,a.g,J,4⟩
 | .nY s=>⟨a.b,{a.g with db:=a.g.db++[s]},a.jQ,5⟩
 | .nZ s=>⟨a.b,{a.g with c7:=a.g.c7++[s]},a.jQ,6⟩
def uY:Acc:=⟨⟨[],[],0,0⟩,⟨[],[]⟩,q9,0⟩
def apQ{a:Acc}{l:jE}:(a.step l).last=jP l:=by cases l<;>rfl
def Bn:∀{l:List UInt8} {p:List UInt8},p∈fG l->p.length<=l.length
 | [],p,h=>by simp[fG]at h
 |x::l,p,h=>by
  rw[fG]at h;by_cases b:(x==10)=J
  .rw[if_pos b]at h;rcases B4.1 h with q|q
   .rw[q];simp
   .have:=Bn q;simp;omega
  .rw[if_neg b]at h;cases a:fG l with
   |nil=>rw[a]at h;simp at h;rw[h];simp
   |cons q c=>
    rw[a]at h;rcases B4.1 h with e|e
    .have:=Bn (l:=l) (p:=q) (by rw[a];simp);rw[e];simp;omega
    .have:=Bn (l:=l) (p:=p) (by rw[a];simp[e]);simp;omega
def fX{h:ae}{a b:Nat}{p g:Array o5}{q d:Nat}{f i:Nat×Nat}{w w':Bool}{z:dL}(c:h a=C ⟨.cells p q f,w⟩)(hb:h b=C ⟨.cells g d i,w'⟩)(j:q≠d):(h.put b z) a=C ⟨.cells p q f,w⟩:=by rw[bx (λe=>by rw[e,hb]at c;cases c;exact j rfl)];exact c
def fr.out{h0 h h':ae}{B M:List Nat}{aW sv bT bV:o5}{x:bY}{y:Ground}{r:Nat}(q:fr h0 h B M aW sv bT bV x y)(i:r∈B)(k:∀b z,b≠r->h b=C z->h' b=C z)(aK:∀d∈M,h0 d=o0):∃c:ae,c.ar h'/\(∀d,(h0 d).isSome=J->c d=o0)/\(yG c aW x.b2/\yH c sv x.cf)/\L8 c bT y.db/\L9 c bV y.c7:=by
 have l:=q.sub r i;obtain⟨N,E,F,ao,G,H,I,f,g,m,n,o,p,s,t⟩:=q;let c:ae:=λb=>if(h0 b).isSome=J then o0 else h' b
 have u:c.ar h':=λb z a=>by
  simp only[c]at a;split at a
  .cases a
  .exact a
 have j:(aZ h0 M h).ar c:=λb z a=>by
  unfold aZ at a;by_cases e:b∈M\/(h0 b).isSome=J
  .rw[if_pos e]at a;cases a
  .rw[if_neg e]at a;simp only[c];rw[if_neg (λq=>e (.inr q))];exact k b z (λK=>e (.inl (by rw[K];exact l))) a
 have cP:∀b z,b∉B->b∈M->h b=C z->c b=C z:=λb z hb L a=>by simp only[c];rw[if_neg (by rw[aK b L];simp)];exact k b z (λe=>hb (by rw[e];exact i)) a
 have v:∀b,ao=C b->b∈M:=λb e=>by rw[f,e];simp
 have w:∀b,G=C b->b∈M:=λb e=>by rw[f,e];simp
 have A:∀b,H=C b->b∈M:=λb e=>by rw[f,e];simp
 have D:∀b,I=C b->b∈M:=λb e=>by rw[f,e];simp
 exact⟨c,u,λd hd=>by simp only[c];rw[if_pos hd],⟨⟨E,(m.keep λb z hb a=>cP b z (g b (.inl hb)) (v b hb) a).at,s.imp λ_ _ r=>dE.le j r.1⟩,F,(n.keep λb z hb a=>cP b z (g b (.inr (.inl hb))) (w b hb) a).at,t.imp λ_ _ r=>dE.le j r.1⟩,(o.keep λb z hb a=>cP b z (g b (.inr (.inr (.inl hb)))) (A b hb) a).at,(p.keep λb z hb a=>cP b z (g b (.inr (.inr (.inr hb)))) (D b hb) a).at⟩
section
variable{P:Program}{fn:Func}{ai:Type}{n:Nat}{gQ:ai->ae->o5->Prop}{e:Env}{s:ai}{h:ae}
def Wy{a b c d f g i j:Nat}{pa pb pc pd:Nat}{k l m o:o5}(q:fn.results=#[.cell a f,.cell b g,.cell c i,.cell d j])(r:a<n)(hb:b<n)(hc:c<n)(hd:d<n)(t:e a=aV pa 0)(u:e b=aV pb 0)(v:e c=aV pc 0)(w:e d=aV pd 0)
  (y:∀Q:o5->ae->Prop,aH P (loadVar f ⟨pa,0,o0⟩) h Q=Q k h) (x:∀Q:o5->ae->Prop,aH P (loadVar g ⟨pb,0,o0⟩) h Q=Q l h) (z:∀Q:o5->ae->Prop,aH P (loadVar i ⟨pc,0,o0⟩) h Q=Q m h) (A:∀Q:o5->ae->Prop,aH P (loadVar j ⟨pd,0,o0⟩) h Q=Q o h)
  (p:gQ s h (.tuple #[k,l,m,o])):dT P fn gQ n e [] s h:=by
 simp only[dT,jU,results,q];simp[aJ,aR,r,hb,hc,hd,t,u,v,w,asAddr,map_eq_pure_bind,y,x,z,A,-map_pure,-bind_pure_comp];exact p
def F0{a b c d f g:Nat}{pa pb:Nat}{i j:o5}(k:fn.results=#[.cell a f,.cell b g,.tmp c,.tmp d])(l:a<n)(hb:b<n)(hc:c<n)(hd:d<n)(m:e a=aV pa 0)(o:e b=aV pb 0)
  (r:∀Q:o5->ae->Prop,aH P (loadVar f ⟨pa,0,o0⟩) h Q=Q i h) (q:∀Q:o5->ae->Prop,aH P (loadVar g ⟨pb,0,o0⟩) h Q=Q j h)
  (p:gQ s h (.tuple #[i,j,e c,e d])):dT P fn gQ n e [] s h:=by
 simp only[dT,jU,results,k];simp[aJ,aR,l,hb,hc,hd,m,o,asAddr,map_eq_pure_bind,r,q,-map_pure,-bind_pure_comp];exact p
end
structure gU(h0 hb h:ae)(B X:List Nat)(c2 c3 c4 c5 c6 cG:Nat)(a:Acc)(at_:Int)(M:List Nat)(aW sv bT bV:o5):Prop where
 q:fr h0 h B M aW sv bT bV a.b a.g
 sl:(∃a n c,aW=.slice a n c)/\(∃a n c,sv=.slice a n c)/\(∃a n c,bT=.slice a n c)/\∃a n c,bV=.slice a n c
 g2:h c2=C ⟨.cells #[aW,sv,.int .i64 a.b.cW,.int .i64 a.b.cS] 25 (0,0),J⟩
 g3:h c3=C ⟨.cells #[bT,bV] 29 (0,0),J⟩
 g4:h c4=C ⟨.cells #[.bool a.jQ] 4 (0,0),J⟩
 g5:h c5=C ⟨.cells #[.nilIface] 91 (0,0),J⟩
 g6:h c6=C ⟨.cells #[.int .i64 at_] 3 (0,0),J⟩
 g7:h cG=C ⟨.cells #[.int .i64 a.last] 3 (0,0),J⟩
 aK:∀d∈M,h0 d=o0
 le:h0.ar h
 cP:∀d∈X,h d=hb d
 st:c6≠cG/\(∀d∈[c2,c3,c4,c5,c6,cG],d∈B/\d∉X)/\∀d∈X,d∈B
section
variable{h0 hb h h':ae}{B X:List Nat}{c2 c3 c4 c5 c6 cG:Nat}{a:Acc}{at_:Int}{M:List Nat}{aW sv bT bV:o5}
def gU.up(q:gU h0 hb h B X c2 c3 c4 c5 c6 cG a at_ M aW sv bT bV)(l:h.ar h'):gU h0 hb h' B X c2 c3 c4 c5 c6 cG a at_ M aW sv bT bV:=⟨q.q.le l,q.sl,l _ _ q.g2,l _ _ q.g3,l _ _ q.g4,l _ _ q.g5,l _ _ q.g6,l _ _ q.g7,q.aK,q.le.ay l,λd hd=>by obtain⟨z,b⟩:=q.q.cH d (q.st.2.2 d hd);rw[<- q.cP d hd,b];exact l _ _ b,q.st⟩
def gU.base(q:gU h0 hb h B X c2 c3 c4 c5 c6 cG a at_ M aW sv bT bV){c:Nat}(hc:c∈[c2,c3,c4,c5,c6,cG])(z:dL):fr h0 (h.put c z) B M aW sv bT bV a.b a.g/\h0.ar (h.put c z)/\∀d∈X,(h.put c z) d=hb d:=by
 obtain⟨f,i⟩:=q.st.2.1 c hc;refine⟨q.q.put f,λd w hd=> ?_,λd hd=> ?_⟩
 .rw[bx (λe=>by subst e;rw[q.aK _ (q.q.sub _ f)]at hd;cases hd)];exact q.le _ _ hd
 .rw[bx (λe=>by subst e;exact i hd)];exact q.cP d hd
def gU.apR(q:gU h0 hb h B X c2 c3 c4 c5 c6 cG a at_ M aW sv bT bV){v:Int}:gU h0 hb (h.put c6 ⟨.cells #[.int .i64 v] 3 (0,0),J⟩) B X c2 c3 c4 c5 c6 cG a v M aW sv bT bV:=by obtain⟨bM,bE,b⟩:=q.base (c:=c6) Y ⟨.cells #[.int .i64 v] 3 (0,0),J⟩;exact⟨bM,q.sl,fX q.g2 q.g6 aty,fX q.g3 q.g6 aty,fX q.g4 q.g6 aty,fX q.g5 q.g6 aty,cI,by rw[bx (Ne.symm q.st.1)];exact q.g7,q.aK,bE,b,q.st⟩
def gU.apS(q:gU h0 hb h B X c2 c3 c4 c5 c6 cG a at_ M aW sv bT bV){v:Int}:gU h0 hb (h.put cG ⟨.cells #[.int .i64 v] 3 (0,0),J⟩) B X c2 c3 c4 c5 c6 cG {a with last:=v} at_ M aW sv bT bV:=by obtain⟨bM,bE,b⟩:=q.base (c:=cG) Y ⟨.cells #[.int .i64 v] 3 (0,0),J⟩;exact⟨bM,q.sl,fX q.g2 q.g7 aty,fX q.g3 q.g7 aty,fX q.g4 q.g7 aty,fX q.g5 q.g7 aty,by rw[bx q.st.1];exact q.g6,cI,q.aK,bE,b,q.st⟩
def gU.apT(q:gU h0 hb h B X c2 c3 c4 c5 c6 cG a at_ M aW sv bT bV){v:Bool}:gU h0 hb (h.put c4 ⟨.cells #[.bool v] 4 (0,0),J⟩) B X c2 c3 c4 c5 c6 cG {a with jQ:=v} at_ M aW sv bT bV:=by obtain⟨bM,bE,b⟩:=q.base (c:=c4) Y ⟨.cells #[.bool v] 4 (0,0),J⟩;exact⟨bM,q.sl,fX q.g2 q.g4 aty,fX q.g3 q.g4 aty,cI,fX q.g5 q.g4 aty,fX q.g6 q.g4 aty,fX q.g7 q.g4 aty,q.aK,bE,b,q.st⟩
def gU.apU(q:gU h0 hb h B X c2 c3 c4 c5 c6 cG a at_ M aW sv bT bV){x y:Int}:gU h0 hb (h.put c2 ⟨.cells #[aW,sv,.int .i64 x,.int .i64 y] 25 (0,0),J⟩) B X c2 c3 c4 c5 c6 cG {a with b:=⟨a.b.b2,a.b.cf,x,y⟩} at_ M aW sv bT bV:=by obtain⟨bM,bE,d⟩:=q.base (c:=c2) Y ⟨.cells #[aW,sv,.int .i64 x,.int .i64 y] 25 (0,0),J⟩;exact⟨bM.mG rfl rfl,q.sl,cI,fX q.g3 q.g2 aty,fX q.g4 q.g2 aty,fX q.g5 q.g2 aty,fX q.g6 q.g2 aty,fX q.g7 q.g2 aty,q.aK,bE,d,q.st⟩
def gU.ny(q:gU h0 hb h B X c2 c3 c4 c5 c6 cG a at_ M aW sv bT bV){c:Nat}(hc:c∈X)(z:dL):gU h0 (h.put c z) (h.put c z) B X c2 c3 c4 c5 c6 cG a at_ M aW sv bT bV:=by have dq:∀d∈[c2,c3,c4,c5,c6,cG],d≠c:=λd hd e=>(q.st.2.1 d hd).2 (by rw[e];exact hc);have b:=q.st.2.2 c hc;exact⟨q.q.put b,q.sl,by rw[bx (dq _ Y)];exact q.g2,by rw[bx (dq _ Y)];exact q.g3,by rw[bx (dq _ Y)];exact q.g4,by rw[bx (dq _ Y)];exact q.g5,by rw[bx (dq _ Y)];exact q.g6,by rw[bx (dq _ Y)];exact q.g7,q.aK,λd w hd=>by rw[bx (λe=>by subst e;rw[q.aK _ (q.q.sub _ b)]at hd;cases hd)];exact q.le _ _ hd,λ_ _=>rfl,q.st⟩
def gU.app(q:gU h0 hb h B X c2 c3 c4 c5 c6 cG a at_ M aW sv bT bV){e:List Nat}(out:∀d z,d∉M->h d=C z->h' d=C z)(g:∀d,d∈e->d∈M\/h d=o0)(f:∀d∈B,h' d=h d):h' c2=h c2/\h' c3=h c3/\h' c4=h c4/\h' c5=h c5/\h' c6=h c6/\h' cG=h cG/\(∀d∈e,h0 d=o0)/\h0.ar h'/\∀d∈X,h' d=hb d:=by
 have b:∀c∈[c2,c3,c4,c5,c6,cG],h' c=h c:=λc hc=>f c (q.st.2.1 c hc).1;refine⟨b _ Y,b _ Y,b _ Y,b _ Y,b _ Y,b _ Y,λd hd=> ?_,λd z hd=> ?_,λd hd=>by rw[f d (q.st.2.2 d hd)];exact q.cP d hd⟩
 .rcases g d hd with r|r
  .exact q.aK d r
  .exact fh q.le r
 .exact out d z (λr=>by rw[q.aK d r]at hd;cases hd) (q.le _ _ hd)
def gU.Wz(q:gU h0 hb h B X c2 c3 c4 c5 c6 cG a at_ M aW sv bT bV){j:List Nat}{hx i:o5}{x':bY}(eW:fr h0 h' B j hx i bT bV x' a.g)(sl:(∃a n c,hx=.slice a n c)/\∃a n c,i=.slice a n c)(l:x'.cW=a.b.cW/\x'.cS=a.b.cS)
  (out:∀d z,d∉M->h d=C z->h' d=C z) (u:∀d,d∈j->d∈M\/h d=o0) (v:∀d∈B,h' d=h d):
  gU h0 hb (h'.put c2 ⟨.cells #[hx,i,.int .i64 a.b.cW,.int .i64 a.b.cS] 25 (0,0),J⟩) B X c2 c3 c4 c5 c6 cG {a with b:=x'} at_ j hx i bT bV:=by
 obtain⟨x,y,A,D,E,F,aK,le,cP⟩:=q.app out u v;obtain⟨k,m⟩:=q.st.2.1 c2 Y;have f:h' c2=C ⟨.cells #[aW,sv,.int .i64 a.b.cW,.int .i64 a.b.cS] 25 (0,0),J⟩:=x.trans q.g2;have o:=y.trans q.g3;have p:=A.trans q.g4;have r:=D.trans q.g5;have s:=E.trans q.g6;have t:=F.trans q.g7;refine⟨eW.put k,⟨sl.1,sl.2,q.sl.2.2⟩,?_,fX o f aty,fX p f aty,fX r f aty,fX s f aty,fX t f aty,aK,λd w hd=> ?_,λd hd=> ?_,q.st⟩
 .rw[cI,l.1,l.2]
 .rw[bx (λe=>by subst e;rw[q.aK _ (q.q.sub _ k)]at hd;cases hd)];exact le _ _ hd
 .rw[bx (λe=>by subst e;exact m hd)];exact cP d hd
def gU.WA(q:gU h0 hb h B X c2 c3 c4 c5 c6 cG a at_ M aW sv bT bV){k:List Nat}{i j:o5}{m:Ground}(eW:fr h0 h' B k aW sv i j a.b m)(sl:(∃a n c,i=.slice a n c)/\∃a n c,j=.slice a n c)
  (out:∀d z,d∉M->h d=C z->h' d=C z) (v:∀d,d∈k->d∈M\/h d=o0) (x:∀d∈B,h' d=h d):
  gU h0 hb (h'.put c3 ⟨.cells #[i,j] 29 (0,0),J⟩) B X c2 c3 c4 c5 c6 cG {a with g:=m} at_ k aW sv i j:=by
 obtain⟨y,A,D,E,F,G,aK,le,cP⟩:=q.app out v x;obtain⟨l,o⟩:=q.st.2.1 c3 Y;have p:=y.trans q.g2;have f:=A.trans q.g3;have r:=D.trans q.g4;have s:=E.trans q.g5;have t:=F.trans q.g6;have u:=G.trans q.g7;exact⟨eW.put l,⟨q.sl.1,q.sl.2.1,sl.1,sl.2⟩,fX p f aty,cI,fX r f aty,fX s f aty,fX t f aty,fX u f aty,aK,λd w hd=>by rw[bx (λe=>by subst e;rw[q.aK _ (q.q.sub _ l)]at hd;cases hd)];exact le _ _ hd,λd hd=>by rw[bx (λe=>by subst e;exact o hd)];exact cP d hd,q.st⟩
end
def oJ(p:List UInt8):List UInt8:=if nW p [10]then p.take (p.length- [(10:UInt8)].length)else p
def apV{x:UInt8}{p:List UInt8}(h:p≠[]):oJ (x::p)=x::oJ p:=by
 cases p with
 |nil=>exact(h rfl).elim
 |cons y p=>
  have e:nW (x::y::p) [10]=nW (y::p) [10]:=by
   simp only[nW,RF,auM];have:p.length+1+1- (0+1)=(p.length+1- (0+1))+1:=U
   rw[this,List.drop_succ_cons];simp
  unfold oJ;rw[e];cases nW (y::p) [10]with
  |false=>rfl
  |true=>
   show(x::y::p).take _=x::(y::p).take _;have:(x::y::p).length- [(10:UInt8)].length=((y::p).length- [(10:UInt8)].length)+1:=Y
   rw[this,List.take_succ_cons]
def Ns:∀{l:List UInt8},∀p∈fG l,p≠[]
 | [],p,h=>by simp[fG]at h
 |x::l,p,h=>by
  rw[fG]at h;split at h
  .rcases B4.1 h with q|q
   .rw[q];simp
   .exact Ns p q
  .split at h
   .simp at h;rw[h];simp
   .rename_i q b a;rcases B4.1 h with e|e
    .rw[e];simp
    .exact Ns p (by rw[a];simp[e])
def apW:∀{l:List UInt8},fG l=[]->l=[]
 | [],_=>rfl
 |x::l,h=>by
  rw[fG]at h;split at h
  .cases h
  .split at h<;>cases h
def Nt{w:UInt8}{l:List UInt8}:cz w l≠[]:=λe=>by have:=uT (w:=w) (l:=l);rw[e]at this;simp at this
def WB:∀{t:List UInt8},wN t=(fG t).map oJ
 | []=>by simp[wN,cz,fG]
 |x::l=>by
  have a:=WB (t:=l);rw[fG];cases d:(x==10)with
  |true=>
   rw[if_pos rfl,atS,<- a];have j:oJ [10]=[]:=aty
   rw[j];unfold wN;rw[cz,d,if_pos rfl];have b:=Nt (w:=10) (l:=l);rw[aAS b,ayc b];split<;>rfl
  |false=>
   rw[if_neg aty];cases hs:cz 10 l with
   |nil=>exact(Nt hs).elim
   |cons f fs=>
   have e0:cz 10 (x::l)=(x::f)::fs:=by rw[cz,d,hs];rfl
   cases c:fG l with
   |nil=>
    have:=apW c;subst this;rw[cz]at hs;cases hs;have i:nW [x] [10]=q9:=by simp only[nW,RF,auM];simpa using d
    simp[wN,e0,oJ,i]
   |cons p bc=>
    rw[c]at a;rw[atS,apV (Ns p (by rw[c];simp))];rw[atS]at a;unfold wN at a ⊢;rw[e0];rw[hs]at a;cases fs with
    |nil=>
     cases f with
     |nil=>rw[if_pos (show[([]:List UInt8)].getLast? =C []from rfl)]at a;cases a
     |cons y f=>rw[if_neg Y]at a ⊢;have h1:=List.cons.inj a;rw[h1.1,h1.2]
    |cons g h=>
     have b:(g::h)≠[]:=Y
     rw[aAS b,ayc b]at a;rw[aAS b,ayc b];by_cases e:(g::h).getLast? =C []
     .rw[if_pos e]at a ⊢;have h1:=List.cons.inj a;rw[h1.1,h1.2]
     .rw[if_neg e]at a ⊢;have h1:=List.cons.inj a;rw[h1.1,h1.2]
def ph{α:Type}{f:List UInt8->Option α}:∀{l:List (List UInt8)} {ns:List α},dZ f l=C ns->ns.length=l.length
 | [],ns,h=>by cases h;rfl
 |x::l,ns,h=>by
  rw[dZ]at h;cases c:f x with
  |none=>rw[c]at h;cases h
  |some a=>
   rw[c]at h;cases b:dZ f l with
   |none=>rw[b]at h;cases h
   |some m=>rw[b]at h;cases h;simp[ph b]
def tG(r:List (List UInt8)):Option jE:=match dZ dP r with
 |some [a,b]=>C (.mG a b)
 |_=>o0
def si(r:List (List UInt8)):Option jE:=if r.length=4 then(dZ dP r).map .nk else o0
def tH(r:List (List UInt8)):Option jE:=if r.length=4 then(dZ gl r).map .nm else o0
def n2(f:List UInt8->Int->Int->Int->jE):List (List UInt8)->Option jE
 | []=>o0
 |n::r=>match dZ dP r with
  |some [a,b,c]=>C (f n a b c)
  |_=>o0
def iN(w:List UInt8)(r:List (List UInt8)):Option jE:=if w=pV then tG r else if w=iY then si r else if w=lQ then tH r else if w=mN then(if r=[]then C .ground else o0)
 else if w=nT then n2 (λn a b c=>.nY ⟨n,a,b,c⟩) r else if w=nU then n2 (λn a b c=>.nZ ⟨n,a,b,c⟩) r else o0
def iO(l:List UInt8):Option jE:=if[]∈cz 32 l then o0 else match cz 32 l with
 | []=>o0
 |w::r=>iN w r
def WC{l:List UInt8}(h:[]∈cz 32 l):iO l=o0:=by unfold iO;rw[if_pos h]
def WE{l w:List UInt8}{r:List (List UInt8)}(h:[]∉cz 32 l)(e:cz 32 l=w::r):iO l=iN w r:=by unfold iO;rw[if_neg h,e]
def Nu{r:List (List UInt8)}(h:dZ dP r=o0\/r.length≠2):tG r=o0:=by
 unfold tG;split
 .rename_i a b q;rcases h with h|h
  .rw[h]at q;cases q
  .have:=ph q;simp at this;omega
 .rfl
def Nv{f:List UInt8->Int->Int->Int->jE}{n:List UInt8}{r:List (List UInt8)}(h:dZ dP r=o0\/r.length≠3):n2 f (n::r)=o0:=by
 rw[n2];split
 .rename_i a b c q;rcases h with h|h
  .rw[h]at q;cases q
  .have:=ph q;simp at this;omega
 .rfl
def WG{α:Type}{l:List α}(h:l.length=2):∃a b,l=[a,b]:=by
 match l,h with
 | [a,b],_=>exact⟨a,b,rfl⟩
def Nw{α:Type}{l:List α}(h:l.length=3):∃a b c,l=[a,b,c]:=by
 match l,h with
 | [a,b,c],_=>exact⟨a,b,c,rfl⟩
def pZ(a:Acc)(k:Nat):List (List UInt8)->Nat ⊕ Acc
 | []=>.inr a
 |l::b=>match iO l with
  |none=>.inl (k+1)
  |some n=>if jF n a.last=J then pZ (a.step n) (k+1) b else .inl (k+1)
def WH{a:Acc}{k:Nat}{l:List UInt8}{b:List (List UInt8)}(h:iO l=o0):pZ a k (l::b)=.inl (k+1):=by rw[pZ,h]
def WI{a:Acc}{k:Nat}{l:List UInt8}{b:List (List UInt8)}{n:jE}(h:iO l=C n)(q:jF n a.last=q9):pZ a k (l::b)=.inl (k+1):=by rw[pZ,h];simp[q]
def WJ{a:Acc}{k:Nat}{l:List UInt8}{ls:List (List UInt8)}{n:jE}(h:iO l=C n)(q:jF n a.last=J):pZ a k (l::ls)=pZ (a.step n) (k+1) ls:=by rw[pZ,h];simp[q]
def oK(t:List UInt8):List (List UInt8):=(fG t).map oJ
def mP(t:List UInt8):Nat ⊕ Acc:=pZ uY 0 (oK t)
def jE.fit:jE->Prop
 | .nk ns=>ns.length=4
 | .nm bc=>bc.length=4
 | .nY s=>s.name.length<=90000
 | .nZ s=>s.name.length<=90000
 |_=>True
def ze{w:UInt8}:∀{l f:List UInt8},f∈cz w l->f.length<=l.length
 | [],f,h=>by simp[cz]at h;simp[h]
 |x::l,f,h=>by
  rw[cz]at h;split at h
  .rcases B4.1 h with q|q
   .simp[q]
   .have:=ze q;simp;omega
  .split at h
   .simp at h;simp[h]
   .rename_i g b a;rcases B4.1 h with e|e
    .have:=ze (w:=w) (l:=l) (f:=g) (by rw[a];simp);rw[e];simp;omega
    .have:=ze (w:=w) (l:=l) (f:=f) (by rw[a];simp[e]);simp;omega
def WK{f:List UInt8->Int->Int->Int->jE}{r:List (List UInt8)}{n:jE}(h:n2 f r=C n):∃x d a b c,r=x::d/\n=f x a b c:=by
 cases r with
 |nil=>cases h
 |cons x d=>
  rw[n2]at h;split at h
  .rename_i a b c q;cases h;exact⟨x,d,a,b,c,rfl,rfl⟩
  .cases h
def WL{l:List UInt8}{n:jE}(i:l.length<=90000)(h:iO l=C n):n.fit:=by
 unfold iO at h;split at h
 .cases h
 .split at h
  .cases h
  .rename_i w r hs;have g:∀f∈r,f.length<=90000:=λf j=>Nat.le_trans (ze (w:=32) (l:=l) (by rw[hs];simp[j])) i;unfold iN at h;split at h
   .unfold tG at h;split at h
    .cases h;trivial
    .cases h
   .split at h
    .unfold si at h;split at h
     .rename_i m;cases d:dZ dP r with
      |none=>rw[d]at h;cases h
      |some e=>rw[d]at h;cases h;have:=ph d;show e.length=4;omega
     .cases h
    .split at h
     .unfold tH at h;split at h
      .rename_i m;cases d:dZ gl r with
       |none=>rw[d]at h;cases h
       |some e=>rw[d]at h;cases h;have:=ph d;show e.length=4;omega
      .cases h
     .split at h
      .split at h
       .cases h;trivial
       .cases h
      .split at h
       .obtain⟨x,k,a,b,c,rfl,rfl⟩:=WK h;exact g x Y
       .split at h
        .obtain⟨x,k,a,b,c,rfl,rfl⟩:=WK h;exact g x Y
        .cases h
structure Acc.Fit(a:Acc)(k:Nat):Prop where
 nl:a.b.b2.length<=k
 ns:a.b.cf.length<=k
 xk:a.g.db.length<=k
 wF:a.g.c7.length<=k
 lay:∀l∈a.b.b2,l.length=4
 yI:∀l∈a.b.cf,l.length=4
 st:∀s∈a.g.db,s.name.length<=90000
 wx:∀s∈a.g.c7,s.name.length<=90000
 jQ:a.jQ=decide (a.last>=4)
 la:0<=a.last/\a.last<=6
def Acc.Fit.zero:uY.Fit 0:=by constructor<;>simp[uY]
def Acc.Fit.step{a:Acc}{k:Nat}{n:jE}(q:a.Fit k)(j:n.fit)(c:jF n a.last=J):(a.step n).Fit (k+1):=by
 obtain⟨h1,o,p,r,d,f,g,h,i,t⟩:=q;cases n with
 |mG x y=>simp[jF]at c;refine⟨by simp[Acc.step];omega,by simp[Acc.step];omega,by simp[Acc.step];omega,by simp[Acc.step];omega,d,f,g,h,?_,by simp[Acc.step]⟩;show a.jQ=_;rw[i,c];rfl
 |nk m=>
  simp[jF]at c;refine⟨by simp[Acc.step];omega,by simp[Acc.step];omega,by simp[Acc.step];omega,by simp[Acc.step];omega,λl b=> ?_,f,g,h,?_,by simp[Acc.step]⟩
  .rcases D3.1 b with e|e
   .exact d l e
   .rw[auJ.1 e];exact j
  .show a.jQ=_;rw[i,decide_eq_false U];rfl
 |nm m=>
  simp[jF]at c;refine⟨by simp[Acc.step];omega,by simp[Acc.step];omega,by simp[Acc.step];omega,by simp[Acc.step];omega,d,λl b=> ?_,g,h,?_,by simp[Acc.step]⟩
  .rcases D3.1 b with e|e
   .exact f l e
   .rw[auJ.1 e];exact j
  .show a.jQ=_;rw[i,decide_eq_false U];rfl
 |ground=>refine⟨by simp[Acc.step];omega,by simp[Acc.step];omega,by simp[Acc.step];omega,by simp[Acc.step];omega,d,f,g,h,rfl,by simp[Acc.step]⟩
 |nY s=>
  simp[jF]at c;refine⟨by simp[Acc.step];omega,by simp[Acc.step];omega,by simp[Acc.step];omega,by simp[Acc.step];omega,d,f,λl b=> ?_,h,?_,by simp[Acc.step]⟩
  .rcases D3.1 b with e|e
   .exact g l e
   .rw[auJ.1 e];exact j
  .show a.jQ=_;rw[i,decide_eq_true U];rfl
 |nZ s=>
  simp[jF]at c;refine⟨by simp[Acc.step];omega,by simp[Acc.step];omega,by simp[Acc.step];omega,by simp[Acc.step];omega,d,f,g,λl b=> ?_,?_,by simp[Acc.step]⟩
  .rcases D3.1 b with e|e
   .exact h l e
   .rw[auJ.1 e];exact j
  .show a.jQ=_;rw[i,decide_eq_true U];rfl
def Acc.Fit.fits{a:Acc}{k:Nat}(q:a.Fit k):a.b.fits/\a.g.fits:=⟨⟨λl c=>by rw[q.lay l c];decide,λl c=>by rw[q.yI l c];decide⟩,q.st,q.wx⟩
def ob:bY:=⟨[],[],0,0⟩
def pj:Ground:=⟨[],[]⟩
def ia(t:List UInt8):bY×Ground×Int×Int:=match mP t with
 | .inl n=>(ob,pj,n,3)
 | .inr a=>if a.jQ=q9 then(ob,pj,0,3)else if gY a.b a.g=0 then(a.b,a.g,0,0)else(ob,pj,0,gY a.b a.g)
def WM{t:List UInt8}{n:Nat}(h:mP t=.inl n):ia t=(ob,pj,(n:Int),3):=by unfold ia;rw[h]
def WN{t:List UInt8}{a:Acc}(h:mP t=.inr a)(q:a.jQ=q9):ia t=(ob,pj,0,3):=by unfold ia;rw[h];simp[q]
def Ga{t:List UInt8}{a:Acc}(h:mP t=.inr a)(q:a.jQ=J)(r:gY a.b a.g≠0):ia t=(ob,pj,0,gY a.b a.g):=by unfold ia;rw[h];simp[q,r]
def WO{t:List UInt8}{a:Acc}(h:mP t=.inr a)(q:a.jQ=J)(r:gY a.b a.g=0):ia t=(a.b,a.g,0,0):=by unfold ia;rw[h];simp[q,r]
def apX{t:List UInt8}:((ia t).1.b2.length<=1000/\(ia t).1.cf.length<=1000)/\((ia t).2.1.db.length<=1000/\(ia t).2.1.c7.length<=1000)/\(∀l∈(ia t).1.b2,l.length<=1000)/\∀l∈(ia t).1.cf,l.length<=1000:=by
 have z:((ob.b2.length<=1000/\ob.cf.length<=1000)/\(pj.db.length<=1000/\pj.c7.length<=1000)/\(∀l∈ob.b2,l.length<=1000)/\∀l∈ob.cf,l.length<=1000):=by simp[ob,pj]
 unfold ia;split
 .exact z
 .split
  .exact z
  .split
   .rename_i a _ _ h;obtain⟨h1,d⟩:=U3.1 h;have:=h1.lay;have:=h1.yI;have:=d.ns;have:=d.wF;exact⟨⟨by show a.b.b2.length<=_;omega,by show a.b.cf.length<=_;omega⟩,⟨by show a.g.db.length<=_;omega,by show a.g.c7.length<=_;omega⟩,λl c=>by rw[(h1.uM l c).1];decide,λl c=>by rw[(h1.load l c).1];decide⟩
   .exact z
def jR(l:List sa)(i:Nat):List Nat:=match l[i]? with
 |some o=>(o.after.toList.filter λx=>atV .any x).map (·.on)
 |none=>[]
def Gb(l:List sa):Nat->List Nat->List Nat
 | 0,s=>s
 |k+1,s=>Gb l k (s++s.flatMap (jR l))
def Nx:Op->Bool
 | .fieldAddr .. |.store .. |.call ⟨.builtin .append,_,_⟩=>J
 |_=>q9
def WQ(l:List sa)(k m:Nat):Bool:=(vd l.length m||(atG m).all λi=>(Gb l k (jR l m)).contains i)&&((atG l.length).all λj=>Kf j m||((vd j m||(jR l j).contains (j- 1))&&(match l[j]? with|some o=>Nx o.op|none=>q9)))
def WR{l:List sa}{D:Nat->Bool}(a:∀i,D i=J->∀j∈jR l i,D j=J):∀k s,(∀i∈s,D i=J)->∀i∈Gb l k s,D i=J
 | 0,s,h=>h
 |k+1,s,h=>WR a k _ λi hi=>by
  rcases D3.1 hi with q|q
  .exact h i q
  .obtain⟨x,c,b⟩:=List.mem_flatMap.1 q;exact a x (h x c) i b
section
variable{P:Program}{main:Bool}{ai:Type}{Sy:Sys ai}{b:aS}{d:List tc}{l:List sa}{N:Env->List tc->ai->ae->Prop}
def apY{o:sa}(a:Nx o.op=J){e:Env}{s:ai}{h:ae}{M:Env->List tc->ai->ae->Prop}(u:bP P main Sy b o e d s h M):bP P main Sy b o e d s h λe' i j h'=>i=d/\M e' i j h':=by
 obtain⟨dst,op,ty,pos,es,g⟩:=o;cases op<;>first|(cases a;done)|skip
 case fieldAddr t x f=>exact lq P _ (λv h q=>⟨rfl,q⟩) u
 case store t x y=>exact lq P _ (λv h q=>⟨rfl,q⟩) u
 case call c=>
  obtain⟨c,k,dD⟩:=c;cases c with
  |value x=>cases a
  |invoke=>cases a
  |builtin q=>cases q<;>first|(cases a;done)|exact lq P _ (λv h q=>⟨rfl,q⟩) u
def Gc(bl:mE l=J)(he:l5 0 l=J)(ca:P.follows .mixedOrders=J)(k m:Nat)(ad:WQ l k m=J)
  (F:Nat->o5->ae->Prop) (Fm:∀i v h h',h.ar h'->F i v h->F i v h') {e0:Env} {aP:ai} {h0:ae}
  (step:∀(i:Nat) (o:sa),i<m->l[i]? =C o->∀e h,h0.ar h->(∀g,l.all (λE=>E.dst != C g)=J->e g=e0 g)->(∀(j g:Nat),(jR l j).contains i=J->(l[j]?).bind (·.dst)=C g->e g=e0 g)->(∀(j g:Nat),(o.after.toList.any λx=>x.on==j&&atV .any x)=J->(l[j]?).bind (·.dst)=C g->F j (e g) h)->
   bP P main Sy b o e d aP h λe' X s' h'=>X=d/\∃v,e'=b7 e o.dst v/\s'=aP/\h.ar h'/\F i v h')
  (b6:∀e h,h0.ar h->(∀g,l.all (λE=>E.dst != C g)=J->e g=e0 g)->(∀(i g:Nat),i<m->(l[i]?).bind (·.dst)=C g->F i (e g) h)->jd P main Sy b l.toArray (l.drop m) e d aP h N) (t:Nat):
  fO P main Sy b l.toArray (atM (P.follows .mixedOrders) l.toArray t) e0 d aP h0 N:=by
 simp only[WQ,vh]at ad;obtain⟨bm,ad⟩:=ad;have tl:∀{j:Nat} {o:sa},m<=j->l[j]? =C o->(j=m\/j- 1∈jR l j)/\Nx o.op=J:=λ{j o} S ho=>by
  have n:=(F1.1 ho).1;have:=G0.1 ad j (au9.2 n);rw[show Kf j m=q9 from by
   cases hq:Kf j m with
   |false=>rfl
   |true=>have:=at4 hq;omega,Bool.false_or,vh,auU,ho]at this
  refine⟨this.1.imp (λq=> ?_) λq=>by simpa using q,this.2⟩;have:=at4 q;omega
 have b8:∀{i j:Nat} {o E:sa} {t:Nat},l[i]? =C o->l[j]? =C E->o.dst=C t->E.dst=C t->i=j:=λhi n e e'=>uE bl hi n (e.trans e'.symm) (by rw[e];simp);have hz:l.toArray.size=l.length:=Y
 unfold atM;rw[ca,Bool.true_or,if_pos rfl];refine uu (ops:=l.toArray) he (λD e s h=>(∀i,i<l.length->D i=J->∀j∈jR l i,j<l.length->D j=J)/\(((∀j,m<=j->j<l.length->D j=q9)/\s=aP/\h0.ar h/\(∀g,l.all (λE=>E.dst != C g)=J->e g=e0 g)/\(∀(i g:Nat),i<l.length->D i=J->(l[i]?).bind (·.dst)=C g->F i (e g) h)/\(∀(i g:Nat),i<l.length->D i=q9->(l[i]?).bind (·.dst)=C g->e g=e0 g))\/∃k,m<k/\k<=l.length/\(∀i,i<l.length->D i=decide (i<k))/\jd P main Sy b l.toArray (l.drop k) e d s h N))
  (λD D' e s h H q=> ?_) (λD e s h i o q hi a8 ho bn=> ?_) (λD e s h q I=> ?_) ⟨λi _ q=>(W3 q).elim,.inl ⟨λ_ _ _=>rfl,rfl,λ_ _ q=>q,λ_ _=>rfl,λi _ _ q=>(W3 q).elim,λ_ _ _ _ _=>rfl⟩⟩ t
 .rw[hz]at H;obtain⟨Q,q⟩:=q;refine⟨λi hi hd j n K=>by rw[<- H j K];exact Q i hi (by rw[H i hi];exact hd) j n K,q.imp (λ⟨a,bM,c,dH,f,dQ⟩=>⟨λj S n=>by rw[<- H j n];exact a j S n,bM,c,dH,λi g hi hd p=>f i g hi (by rw[H i hi];exact hd) p,λi g hi hd p=>dQ i g hi (by rw[H i hi];exact hd) p⟩) λ⟨k,a,bM,c,dH⟩=>⟨k,a,bM,λi hi=>by rw[<- H i hi];exact c i hi,dH⟩⟩
 .rw[hz]at hi;have A:l[i]? =C o:=by simpa using ho
  have hg:=uD bl A;have hw:R9 o (jV l.toArray e)=J:=by simp[R9,hg]
  rw[if_pos hw];obtain⟨Q,q⟩:=q;have ag:∀j∈jR l i,D j=J:=λj n=>by unfold jR at n;rw[A]at n;obtain⟨x,w,rfl⟩:=List.mem_map.1 n;rw[List.mem_filter]at w;exact bn x (by simpa using w.1) w.2
  have bs:∀j,j<l.length->(if j=i then J else D j)=J->∀B∈jR l j,B<l.length->(if B=i then J else D B)=J:=λj K n B bt cc=>by
   by_cases r:B=i
   .rw[if_pos r]
   .rw[if_neg r];by_cases W:j=i
    .subst W;exact ag B bt
    .rw[if_neg W]at n;exact Q j K n B bt cc
  have b9:∀k,i=k->jd P main Sy b l.toArray (l.drop k) e d s h N->(∀j,j<l.length->(if j=i then J else D j)=decide (j<k+1))->m<=k->mW P main Sy b o e d s h λe X s h=>X=d/\(∀j,j<l.length->(if j=i then J else D j)=J->∀B∈jR l j,B<l.length->(if B=i then J else D B)=J)/\(((∀j,m<=j->j<l.length->(if j=i then J else D j)=q9)/\s=aP/\h0.ar h/\(∀g,l.all (λE=>E.dst != C g)=J->e g=e0 g)/\(∀(j g:Nat),j<l.length->(if j=i then J else D j)=J->(l[j]?).bind (·.dst)=C g->F j (e g) h)/\(∀(j g:Nat),j<l.length->(if j=i then J else D j)=q9->(l[j]?).bind (·.dst)=C g->e g=e0 g))\/∃k,m<k/\k<=l.length/\(∀j,j<l.length->(if j=i then J else D j)=decide (j<k))/\jd P main Sy b l.toArray (l.drop k) e d s h N):=λk ek u hk mk=>by
   subst ek;have hd:l.drop i=o::l.drop (i+1):=by rw[atQ hi];rw[List.getElem?_eq_getElem hi]at A;rw[Option.some.inj A]
   rw[hd,jd,hg]at u;refine vR (λe' X s' h' ⟨r1,r2⟩=> ?_) (pz (apY (tl mk A).2 u));subst r1;exact⟨rfl,bs,.inr ⟨i+1,U,U,hk,r2⟩⟩
  rcases q with⟨a,bM,c,dH,f,dQ⟩|⟨k,a,bM,c,dH⟩
  .subst bM;rcases vy i m with S|S
   .refine vR (λe' X s' h' ⟨r1,v,r2,r3,r4,r5⟩=> ?_) (pz (step i o S A e h c dH (λj g w n=> ?_) λj g w n=> ?_))
    rotate_left
    rotate_left
    .subst r2;refine⟨r1,bs,.inl ⟨λj cm n=> ?_,r3,λx y z=>r4 x y (c x y z),λg p=> ?_,λj g n hd p=> ?_,λj g n hd p=> ?_⟩⟩
     .show(if j=i then J else D j)=q9;rw[if_neg U];exact a j cm n
     .rw[<- dH g p];have:=G0.1 p o (List.mem_of_getElem? A);cases ab:o.dst with
      |none=>rfl
      |some cU=>rw[eU,aL,if_neg (λe=>by rw[ab,e]at this;simp at this)]
     .by_cases r:j=i
      .subst r;rw[A]at p;have p:o.dst=C g:=p;rw[p,eU,aL,if_pos rfl];exact r5
      .have hd:(if j=i then J else D j)=J:=hd;rw[if_neg r]at hd;have key:b7 e o.dst v g=e g:=by
        cases ab:o.dst with
        |none=>rfl
        |some cU=>rw[eU,aL,if_neg];intro W;obtain⟨o2,G,R⟩:=auK.1 p;exact r (b8 G A R (by rw[ab,W]))
       rw[key];exact Fm _ _ _ _ r4 (f j g n hd p)
     .have hd:(if j=i then J else D j)=q9:=hd;by_cases r:j=i
      .rw[if_pos r]at hd;cases hd
      .rw[if_neg r]at hd;rw[<- dQ j g n hd p];cases ab:o.dst with
       |none=>rfl
       |some cU=>rw[eU,aL,if_neg];intro W;obtain⟨o2,G,R⟩:=auK.1 p;exact r (b8 G A R (by rw[ab,W]))
    .obtain⟨o2,G,R⟩:=auK.1 n;have K:=(F1.1 G).1;refine dQ j g K ?_ n;cases cp:D j with
     |false=>rfl
     |true=>have:=Q j K cp i (by simpa using w) hi;rw[a8]at this;cases this
    .rw[List.any_eq_true]at w;obtain⟨x,cM,hb⟩:=w;simp only[vh,beq_iff_eq]at hb;have hD:=bn x (by simpa using cM) hb.2;rw[hb.1]at hD;obtain⟨o2,G,R⟩:=auK.1 n;exact f j g (F1.1 G).1 hD n
   .have ba:i=m:=by
     rcases(tl S A).1 with q|q
     .exact q
     .rcases vy m i with h1|h1
      .have:=ag _ q;rw[a (i- 1) U U]at this;cases this
      .omega
    have I:∀j,j<m->D j=J:=λj n=>by
     have c6:j∈Gb l k (jR l m):=by
      rw[auU]at bm;rcases bm with q|q
      .have:=at4 q;omega
      .have:=G0.1 q j (au9.2 n);simpa using this
     have key:=WR (l:=l) (D:=λx=>D x||vd l.length x) (λx w y L=> ?_) k (jR l m) (λx w=> ?_) j c6
     .simp only[auU]at key;rcases key with q|q
      .exact q
      .have:=at4 q;omega
     .simp only[auU]at w ⊢;rcases vy y l.length with h1|h1
      .rcases w with q|q
       .rcases vy x l.length with M|M
        .exact .inl (Q x M q y L h1)
        .unfold jR at L;rw[au6 M]at L;cases L
       .have M:=at4 q;unfold jR at L;rw[au6 M]at L;cases L
      .exact .inr (Nat.ble_eq_true_of_le h1)
     .simp only[auU];exact .inl (ag x (by rw[ba];exact w))
    refine b9 m ba (b6 e h c dH λj g n p=>f j g U (I j n) p) (λj n=> ?_) (vr _);by_cases r:j=i
    .rw[if_pos r,r,ba];simp
    .rw[if_neg r];rcases vy j m with h1|h1
     .rw[I j h1,decide_eq_true U]
     .rw[a j h1 n,decide_eq_false U]
  .have b4:i=k:=by
    have h1:¬i<k:=λq=>by rw[c i hi,decide_eq_true q]at a8;cases a8
    rcases(tl U A).1 with q|q
    .omega
    .rcases vy k i with M|M
     .have:=ag _ q;rw[c (i- 1) U,decide_eq_false U]at this;cases this
     .omega
   refine b9 k b4 dH (λj n=> ?_) U;by_cases r:j=i
   .rw[if_pos r,r,b4];simp
   .rw[if_neg r,c j n];by_cases h1:j<k
    .rw[decide_eq_true h1,decide_eq_true U]
    .rw[decide_eq_false h1,decide_eq_false U]
 .rw[hz]at I;obtain⟨Q,q⟩:=q;rcases q with⟨a,bM,c,dH,f,_⟩|⟨k,a,bM,c,dH⟩
  .subst bM;have dd:l.length<=m:=by
    rcases vy m l.length with h1|h1
    .have:=I m h1;rw[a m (vr _) h1]at this;cases this
    .exact h1
   have:=b6 e h c dH λi g hi p=>by obtain⟨o2,G,R⟩:=auK.1 p;have hl:=(F1.1 G).1;exact f i g hl (I i hl) p
   rw[av5 dd]at this;exact this
  .have hk:k=l.length:=by
    rcases vy k l.length with h1|h1
    .have:=I k h1;rw[c k h1]at this;simp at this
    .omega
   rw[hk,av5 (vr _)]at dH;exact dH
end
section
variable{main:Bool}{ai:Type}{S:Sys ai}{s:ai}{h:ae}
def apZ:bz pv 85=J:=O
def ap0{v:o5}{l:List (List UInt8)}(hv:fW h v l)(hl:l.length<=90000)(hf:∀f∈l,f.length<=90000):bo pv main S 85 #[v] s h λs' h' z=>s'=s/\h.ar h'/\∃a n c b,z=.tuple #[.slice a n c,.bool b]/\(b=J↔∃bc,dZ gl l=C bc/\bc.length=4)/\(∀bc,dZ gl l=C bc->jD h' (.slice a n c) bc)/\∀A,a=C A->h A.block=o0:=by
 refine bL (args:=[v]) Tryz.func85 (by delta Tryz.f85;rfl) Tryz.ntmps85 Y O ?_;obtain⟨b,o,n,c,rfl,K,hb⟩:=hv;simp only[List.length_map]at K;subst K;simp only[ah,seval];refine du (I:=λk e d L F=>∃i G cE ns,k=l.length- i/\i<=l.length/\e 0=.slice b l.length c/\e 5=.int .i64 i/\e 4=G/\d=[]/\L=s/\h.ar F/\(∀d,cE=C d->h d=o0)/\eB F G 63 2 (ns.map Bf) cE/\ns.length=i/\dZ gl l=(dZ gl (l.drop i)).map (ns++ ·)) (λk e d L F hI=> ?_) (m:=l.length) ⟨0,.slice o0 0 0,o0,[],Y,Y,atA,atA,atA,rfl,rfl,λ_ _ q=>q,(λ_ q=>by cases q),.nil,rfl,Y⟩;obtain⟨i,G,cE,ns,rfl,hi,e0,H,e4,rfl,rfl,j,w,q,a7,g⟩:=hI;obtain⟨a1,bK,c1,rfl⟩:=q.slice;rcases vy i l.length with hc|hc
 .obtain⟨mb,rfl,arr,q',f,w',hm,hr⟩:=hb.resolve_left U;have g1:arr[o+i]? =C (au l[i]):=by simpa using hr i [au l[i]] (by simp[hc]) 0 _ rfl
  have M:=j _ _ hm;have bd:decide ((i:Int)<l.length)=J:=atB
  have hd:l.drop i=l[i]::l.drop (i+1):=atQ hc;have N:=hf _ (List.getElem_mem hc);generalize l[i]=x at g1 hd N;simp only[ah,seval,e0,H,M,g1,bd];refine cd apk (apl N) λs2 h2 z ⟨q1,t,p,q3,q4⟩=> ?_;subst q1;subst q3;have cm:=t _ _ M;simp only[ah,seval,dg,gk];intro c5 h5 P Q;have bk:=bU P Q;have g5:=bw Q;simp only[ah,seval,g5];intro h6 e6;have g6:=bw e6;have B:h2.ar h6:=dM bk P e6;cases u:gl x with
  |none=>simp only[ah,seval,Option.isSome_none];exact gT aCJ Y Y ⟨rfl,j.ay (t.ay B),o0,0,0,q9,atA,⟨λq=>(by cases q),λ⟨bc,q,_⟩=>(by rw[g,hd]at q;simp[dZ,u]at q)⟩,λbc q=>(by rw[g,hd]at q;simp[dZ,u]at q),λA q=>(by cases q)⟩
  |some a=>
   obtain rfl:=q4 a u;simp only[ah,seval,e4,g6];refine VB (p:=p) λc3 h7 R D=> ?_;have bl:=bU R D;have g7:=bw D;have qk:eB h6 (.slice a1 bK c1) 63 2 (ns.map Bf) cE:=q.keep λd y _ hy=>B _ _ (t _ _ hy);simp only[ah,seval];refine pX (row:=Bf p) Tryz.underlying47 Nb VD Na rfl aty aty aty (uV (h0:=h) qk R D) rfl rfl atB (by rw[iX g7];rfl) λcp h8 bp k1 k2 W=> ?_;obtain⟨a2,bR,c2,rfl⟩:=W.slice;simp only[ah,seval,H];have X:=j.ay (t.ay (B.ay bl));refine⟨l.length- (i+1),U,i+1,.slice a2 bR c2,bp,ns++[p],rfl,U,e0,by simp[cq (x:=(i:Int)+1) U U],rfl,λd y hd=>k1 _ _ (λe=>by have:=w d e;rw[this]at hd;cases hd) (X _ _ hd),λd hd=> ?_,by rw[auu];exact W,by simp[a7],by rw[g,hd];simp only[dZ,u,Option.map_map];congr 1;funext r;simp⟩;rcases k2 with r|⟨bG,r,bt⟩
   .exact w d (r▸hd)
   .rw[r]at hd;cases hd;exact fh X bt
 .have:i=l.length:=U
  subst this;rw[List.drop_length]at g;have g:dZ gl l=C ns:=by rw[g];simp[dZ]
  simp only[ah,seval,e0,H,e4,decide_eq_false (U:¬((l.length:Nat):Int)<l.length)];have cM:bK=ns.length:=by obtain⟨b9,o9,n9,dk,e9,b3,_⟩:=q.at;cases e9;simpa using b3.symm
  refine gT aCJ Y Y ⟨rfl,j,a1,bK,c1,((bK:Int)==4),atA,⟨λq=>⟨ns,g,by rw[beq_iff_eq]at q;omega⟩,λ⟨bc,q,E⟩=> ?_⟩,λbc E=> ?_,λA aI=>q.fresh w A aI⟩
  .rw[g]at q;cases q;rw[beq_iff_eq];omega
  .rw[g]at E;cases E;exact⟨q.at,q.ty⟩
end
section
variable{main:Bool}{ai:Type}{S:Sys ai}{s:ai}{h:ae}
def ap1:bz pv 84=J:=O
def ap2:bz pv 45=J:=O
def ap3{m o n p:Nat}{l:List (List UInt8)}(u:fW h (dn m o n p) l)(w:n<=p)(R:l.length<=90000)(F:∀f∈l,f.length<=90000):bo pv main S 84 #[dn m o n p] s h λN h' z=>N=s/\h.ar h'/\∃cr a n c b,z=.tuple #[au cr,.slice a n c,.bool b]/\(b=J↔∃x r ns,l=x::r/\r.length=3/\dZ dP r=C ns)/\(∀x r ns,l=x::r->r.length=3->dZ dP r=C ns->cr=x/\iZ h' (.slice a n c) ns)/\∀A,a=C A->h A.block=o0:=by
 refine bL (args:=[dn m o n p]) Tryz.func84 (by delta Tryz.f84;rfl) Tryz.ntmps84 Y O ?_;have y:l.length=n:=by obtain⟨b,P,bK,c,e,y,hb⟩:=id u;cases e;simpa using y
 cases t:((n:Int) != 4)with
 |true=>
  have k:¬l.length=4:=by simp at t;omega
  simp only[ah,seval,t];exact tC aAT Y Y Y ⟨rfl,.cO _,[],o0,0,0,q9,atA,⟨λq=>(by cases q),λ⟨x,r,ns,d,j,_⟩=>(k (by rw[d];simp[j])).elim⟩,λx r ns d j _=>(k (by rw[d];simp[j])).elim,λA q=>(by cases q)⟩
 |false=>
  have k:l.length=4:=by simp at t;omega
  cases l with
  |nil=>simp at k
  |cons x r=>
  have G:r.length=3:=by simpa using k
  have H:=u.tail w;obtain⟨b,P,bK,c,e,W,hb⟩:=id u;cases e;obtain⟨mb,e,arr,X,f,w',Q,I⟩:=hb.resolve_left U;cases e;have E:arr[o]? =C (au x):=by simpa using I 0 [au x] Y 0 _ rfl
  have bd:decide ((0:Int)<(n:Int))=J:=atB
  simp only[ah,seval,t];refine FQ (l:=1) Tryz.underlying98 jC U w ?_;simp only[ah,seval];refine cd VT (VU H U λf K=>F f (by simp[K])) λs2 h2 z ⟨d,v,i⟩=> ?_;subst d;have B:=v _ _ Q;rcases i with⟨i,rfl⟩|⟨ns,a,bR,c2,i,rfl,L,M⟩
  .simp only[ah,seval,dg,bd,B,E];exact tC aAT Y Y Y ⟨rfl,v,x,o0,0,0,q9,atA,⟨λq=>(by cases q),λ⟨x',D,ns,d,j,g⟩=>(by cases d;rw[i]at g;cases g)⟩,λx' D ns d j g=>(by cases d;rw[i]at g;cases g),λA q=>(by cases q)⟩
  .simp only[ah,seval,dg,bd,B,E];exact tC aAT Y Y Y ⟨rfl,v,x,a,bR,c2,J,atA,⟨λ_=>⟨x,r,ns,rfl,G,i⟩,λ_=>rfl⟩,λx' D ab d j g=>(by cases d;rw[i]at g;cases g;exact⟨rfl,L⟩),M⟩
end
section
variable{main:Bool}{ai:Type}{S:Sys ai}
def zg(r k:Int):Bool:=if(r==0)||decide (k<0)then(r==0)&&decide (k<0)else if r==3 then decide (k<3)else decide (r>=k)&&(decide (r<3)||decide (k>=3))
def ap4(r k:Int):Pure pv main S 45 #[.int .i64 r,.int .i64 k] (.bool (zg r k)):=by
 intro s h;refine bL (args:=[.int .i64 r,.int .i64 k]) Tryz.func45 (by delta Tryz.f45;rfl) Tryz.ntmps45 Y O ?_;cases a:(r==0)<;>cases b:decide (k<0)
 .cases c:(r==3)
  .cases d:decide (r>=k)
   .simp only[ah,seval,a,b,c,d,yV];exact bu azj Y ⟨rfl,rfl,by simp[ak,zg,a,b,c,d]⟩
   .cases e:decide (r<3)<;>cases f:decide (k>=3)<;>simp only[ah,seval,a,b,c,d,e,f]<;>exact bu azj Y ⟨rfl,rfl,by simp[ak,zg,a,b,c,d,e,f]⟩
  .simp only[ah,seval,a,b,c];exact bu azj Y ⟨rfl,rfl,by simp[ak,zg,a,b,c]⟩
 all_goals
  simp only[ah,seval,a,b];exact bu azj Y ⟨rfl,rfl,by simp[ak,zg,a,b]⟩
end
end
end Go.Nk
