/- Part Paj of the proof of ButtTexts: lemmas. -/
import Derived.Test.YthgephlghkjiaaaGreatDoorPai
set_option maxRecDepth 100000
set_option maxHeartbeats 4000000
set_option linter.all false
namespace Go.Nk
noncomputable section
open Go Go.Conc Go.Proofs
open Bool renaming true->J
open Go.Proofs.Tryz renaming prog->pv
open Option renaming some->C,none->o0
def xV:Value:=.func (.func 145) #[] #[]
def sX(n:Nat)(l:List bX):Value:=.slice (C ⟨n,0,o0⟩) l.length df
def aaF{a c:bX}(e:a∈dm)(hc:c∈dm)(f:a≠c)(b d:bX):qK (eP fp iU 30 144 [sX 12 [a,b],sX 13 [c,d],xV] (gd [m9 [a,b],m9 [c,d]]))=C (xT a c):=by
 rcases vV e with rfl|rfl|rfl|rfl|rfl|rfl|rfl|rfl<;>rcases vV hc with rfl|rfl|rfl|rfl|rfl|rfl|rfl|rfl<;>first
  |exact absurd rfl f
  |kernel_rfl
def sY(a:bX):Bool:=dm.all λb=>dm.all λd=>Ae (qK (eP fp iU 30 144 [sX 12 [a,b],sX 13 [a,d],xV] (gd [m9 [a,b],m9 [a,d]]))) (xT b d)
def aaG:sY (0,0)=J:=O
def aaH:sY (0,1)=J:=O
def aaI:sY (0,2)=J:=O
def aaJ:sY (0,3)=J:=O
def aaK:sY (1,0)=J:=O
def aaL:sY (1,1)=J:=O
def aaM:sY (1,2)=J:=O
def aaN:sY (1,3)=J:=O
def HH{o:Option Int}{n:Int}(h:Ae o n=J):o=C n:=by
 unfold Ae at h;split at h
 .rw[of_decide_eq_true h]
 .cases h
def Pz{o:Option (Int×Bool)}{n:Int}{b:Bool}(h:xU o n b=J):o=C (n,b):=by
 unfold xU at h;split at h
 .rw[Bool.and_eq_true]at h;rw[of_decide_eq_true h.1];rename_i m c;have:=h.2;cases b<;>cases c<;>simp_all
 .cases h
def aaO{a b d:bX}(c:a∈dm)(hb:b∈dm)(hd:d∈dm):qK (eP fp iU 30 144 [sX 12 [a,b],sX 13 [a,d],xV] (gd [m9 [a,b],m9 [a,d]]))=C (xT b d):=by
 have:sY a=J:=by
  rcases vV c with rfl|rfl|rfl|rfl|rfl|rfl|rfl|rfl
  .exact aaG
  .exact aaH
  .exact aaI
  .exact aaJ
  .exact aaK
  .exact aaL
  .exact aaM
  .exact aaN
 exact HH (List.all_eq_true.1 (List.all_eq_true.1 this b hb) d hd)
def oz(a:bX):Int:=4*a.1+a.2
def uA(a b c d:bX):Int:=if a=c then xT b d else xT a c
def aaP{a b c d:bX}(f:a∈dm)(hb:b∈dm)(hc:c∈dm)(hd:d∈dm):qK (eP fp iU 30 144 [sX 12 [a,b],sX 13 [c,d],xV] (gd [m9 [a,b],m9 [c,d]]))=C (uA a b c d):=by
 unfold uA;split
 .rename_i e;subst e;exact aaO f hb hd
 .rename_i e;exact aaF f hc e b d
def vW{a b:bX}(c:a∈dm)(hb:b∈dm):(xT a b<0↔oz a<oz b)/\(a=b↔oz a=oz b)/\0<=oz a/\oz a<8:=by rcases vV c with rfl|rfl|rfl|rfl|rfl|rfl|rfl|rfl<;>rcases vV hb with rfl|rfl|rfl|rfl|rfl|rfl|rfl|rfl<;>decide
def aaQ{a b c d:bX}(f:a∈dm)(hb:b∈dm)(hc:c∈dm)(hd:d∈dm):uA a b c d<0↔8*oz a+oz b<8*oz c+oz d:=by
 have h1:=vW f hc;have g:=vW hb hd;have h:=vW hd hb;unfold uA;split
 .rename_i e;subst e;rw[g.1];omega
 .rename_i e;have:¬oz a=oz c:=λq=>e (h1.2.1.2 q);rw[h1.1];omega
def CR:Option (Value×aE)->Option (Nat×Nat×Nat×Nat×Option cj)
 |some (.slice (C ⟨b,o,o0⟩) n k,H)=>C (b,o,n,k,H.get b)
 |_=>o0
def aaR(a b:bX):CR (eP fp iU 30 142 [sX 12 [a,b]] (gd [m9 [a,b]]))=C (14,0,2,df,C (.cs J J 57 (iL [a,b]))):=O
def iA(h:ae)(b k:Nat)(l:List bX)(o:Bool):Prop:=∃arr rest,h b=C ⟨.cells arr 57 (0,0),o⟩/\arr.toList=iL l++rest/\∃a,cu pv 57=C a/\arr.size=k*a
def iA.le{h h':ae}{b k:Nat}{l:List bX}{o:Bool}(p:iA h b k l o)(le:h.ar h'):iA h' b k l o:=by obtain⟨arr,rest,h1,a⟩:=p;exact⟨arr,rest,le _ _ h1,a⟩
def CS(ρ:aX):∀l:List bX,cT ρ (iL l) (iL l)
 | []=>.nil
 |x::l=>.cons (.int _ _) (.cons (.int _ _) (CS ρ l))
def CU{ρ:aX}:∀{l:List bX} {c:List Value},cT ρ (iL l) c->c=iL l
 | [],_,.nil=>rfl
 |x::l,_,.cons (.int _ _) (.cons (.int _ _) q)=>by rw[CU q];rfl
def xW{ρ:aX}{h:ae}{b k:Nat}{l:List bX}{o:Bool}(p:iA h b k l o):Bk pv ρ k (m9 l) (h b):=by obtain⟨arr,rest,h1,a,c,d,e⟩:=p;exact⟨arr,o,iL l,rest,h1,(by intro q;cases q),a,CS ρ l,(by intro q;cases q),λ_=>⟨c,d,e⟩⟩
section
variable{main:Bool}{ai:Type}{Sy:Sys ai}{s:ai}{h:ae}
def CV{b k:Nat}:∀(i j bG c a:Nat),[(b,k)][i]? =C (bG,c)->[(b,k)][j]? =C (bG,a)->i=j:=by
 intro i j bG c a h1 d
 match i,j with
 | 0,0=>rfl
 | 0,j+1=>simp at d
 |i+1,_=>simp at h1
def PC{b k c m:Nat}(f:b≠c):∀(i j bG e d:Nat),[(b,k),(c,m)][i]? =C (bG,e)->[(b,k),(c,m)][j]? =C (bG,d)->i=j:=by
 intro i j bG e d h1 a
 match i,j with
 | 0,0=>rfl
 | 1,1=>rfl
 | 0,1=>simp at h1 a;omega
 | 1,0=>simp at h1 a;omega
 | 0,j+2=>simp at a
 | 1,j+2=>simp at a
 |i+2,_=>simp at h1
def aaS{p q k m:Nat}{o u:Bool}{a b c d:bX}(j:a∈dm)(hb:b∈dm)(hc:c∈dm)(hd:d∈dm)(l:p≠q)(r:iA h p k [a,b] o)(t:iA h q m [c,d] u):bz pv 144=J/\bo pv main Sy 144 ⟨[.slice (C ⟨p,0,o0⟩) 2 k,.slice (C ⟨q,0,o0⟩) 2 m,xV]⟩ s h λg h' v=>g=s/\h.ar h'/\v=.int .i64 (uA a b c d):=by
 have e:=aaP j hb hc hd;unfold qK at e;split at e
 .rename_i n H' w;cases e;obtain⟨y,q⟩:=uz (main:=main) (Sy:=Sy) (s:=s) (bs:=[(p,k),(q,m)]) (h:=h) (args':=[.slice (C ⟨p,0,o0⟩) 2 k,.slice (C ⟨q,0,o0⟩) 2 m,xV]) w rfl (PC l) (λi x bG k' h1 f=>by
    match i with
    | 0=>simp at h1 f;obtain⟨rfl,rfl⟩:=f;subst h1;exact xW r
    | 1=>simp at h1 f;obtain⟨rfl,rfl⟩:=f;subst h1;exact xW t
    |i+2=>simp at h1)
   (.cons (by have:=bj.sl (ρ:=iz [(p,k),(q,m)]) (c:=12) (b:=p) (k:=k) 0 2 df rfl;rw[oy]at this;exact this)
    (.cons (by have:=bj.sl (ρ:=iz [(p,k),(q,m)]) (c:=13) (b:=q) (k:=m) 0 2 df rfl;rw[oy]at this;exact this)
    (.cons (.func _ .nil .nil) .nil)))
  exact⟨y,q.mono λg h' v ⟨z,A,bq,D,B,E⟩=>⟨z,A,by cases B;rfl⟩⟩
 .cases e
def aaT{p k:Nat}{o:Bool}{a b:bX}(r:iA h p k [a,b] o):bz pv 142=J/\bo pv main Sy 142 ⟨[.slice (C ⟨p,0,o0⟩) 2 k]⟩ s h λg h' v=>g=s/\h.ar h'/\∃d k',v=.slice (C ⟨d,0,o0⟩) 2 k'/\iA h' d k' [a,b] J/\h d=o0:=by
 have e:=aaR a b;unfold CR at e;split at e
 .rename_i n P bK E H' F;simp only[Option.some.injEq,Prod.mk.injEq]at e;obtain⟨rfl,rfl,rfl,rfl,f⟩:=e;obtain⟨G,q⟩:=uz (main:=main) (Sy:=Sy) (s:=s) (bs:=[(p,k)]) (h:=h) (args':=[.slice (C ⟨p,0,o0⟩) 2 k]) F rfl CV (λi x bG k' h1 j=>by
    match i with
    | 0=>simp at h1 j;obtain⟨rfl,rfl⟩:=j;subst h1;exact xW r
    |i+1=>simp at h1)
   (.cons (by have:=bj.sl (ρ:=iz [(p,k)]) (c:=12) (b:=p) (k:=k) 0 2 df rfl;rw[oy]at this;exact this) .nil)
  refine⟨G,q.mono λg h' v ⟨H,I,bq,K,L,M⟩=>⟨H,I,?_⟩⟩;obtain⟨d,k',l,arr,fu,bJ,rest,t,u,w,z,N,A⟩:=K.blk 14 _ f;have B:=u rfl;subst B;have D:=CU z;subst D;refine⟨d,k',?_,⟨arr,rest,t,w,A rfl⟩,?_⟩
  .match v,L with
   |_,.sl (b:=bM) (k:=E) _ _ _ m=>rw[l]at m;cases m;rw[oy]
  .rcases M.lB 14 _ d k' f (by rw[vU];simp) rfl l with q|⟨dy,k0,⟨w1,y,w2,_⟩,_⟩
   .exact q
   .rw[CO]at w1;rw[xR]at w2;split at w2
    .cases w2
    .have:=(List.getElem?_eq_some_iff.1 w2).1;simp at this;simp at w1;omega
 .cases e
end
end
end Go.Nk
