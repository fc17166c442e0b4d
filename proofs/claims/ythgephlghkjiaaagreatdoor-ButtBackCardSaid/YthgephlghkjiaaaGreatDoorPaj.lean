/- Part Paj of the proof of ButtBack: lemmas. -/
import Derived.Test.YthgephlghkjiaaaGreatDoorPai
set_option maxRecDepth 100000
set_option maxHeartbeats 4000000
set_option linter.all false
namespace Go.Nk
noncomputable section
open Go Go.Conc Go.Proofs
def zV:Value:=.func (.func 145) #[] #[]
def tJ(n:Nat)(l:List b6):Value:=.slice (some ⟨n,0,none⟩) l.length dj
theorem apS{a c:b6}(aA:a∈dv)(hc:c∈dv)(b7:a≠c)(b d:b6):rk (eH fl iF 30 144 [tJ 12 [a,b],tJ 13 [c,d],zV] (gn [nB [a,b],nB [c,d]]))=some (Aj a c):=by
 rcases xF aA with rfl|rfl|rfl|rfl|rfl|rfl|rfl|rfl<;>rcases xF hc with rfl|rfl|rfl|rfl|rfl|rfl|rfl|rfl<;>first
  | exact absurd rfl b7
  | kernel_rfl
def tK(a:b6):Bool:=dv.all fun b=>dv.all fun d=>Cn (rk (eH fl iF 30 144 [tJ 12 [a,b],tJ 13 [a,d],zV] (gn [nB [a,b],nB [a,d]]))) (Aj b d)
theorem anj:tK (0,0)=true:=by kernel_rfl
theorem ank:tK (0,1)=true:=by kernel_rfl
theorem anl:tK (0,2)=true:=by kernel_rfl
theorem anm:tK (0,3)=true:=by kernel_rfl
theorem ann:tK (1,0)=true:=by kernel_rfl
theorem ano:tK (1,1)=true:=by kernel_rfl
theorem anp:tK (1,2)=true:=by kernel_rfl
theorem anq:tK (1,3)=true:=by kernel_rfl
theorem J9{o:Option Int}{n:Int}(h:Cn o n=true):o=some n:=by
 unfold Cn at h;split at h
 ·rw [of_decide_eq_true h]
 ·cases h
theorem TB{o:Option (Int×Bool)}{n:Int}{b:Bool}(h:Ak o n b=true):o=some (n,b):=by
 unfold Ak at h;split at h
 ·rw [Bool.and_eq_true] at h;rw [of_decide_eq_true h.1];rename_i m c;have:=h.2;cases b<;>cases c<;>simp_all
 ·cases h
theorem apT{a b d:b6}(aA:a∈dv)(hb:b∈dv)(hd:d∈dv):rk (eH fl iF 30 144 [tJ 12 [a,b],tJ 13 [a,d],zV] (gn [nB [a,b],nB [a,d]]))=some (Aj b d):=by
 have:tK a=true:=by
  rcases xF aA with rfl|rfl|rfl|rfl|rfl|rfl|rfl|rfl
  ·exact anj
  ·exact ank
  ·exact anl
  ·exact anm
  ·exact ann
  ·exact ano
  ·exact anp
  ·exact anq
 exact J9 (List.all_eq_true.1 (List.all_eq_true.1 this b hb) d hd)
def oW(a:b6):Int:=4*a.1+a.2
def vA(a b c d:b6):Int:=if a=c then Aj b d else Aj a c
theorem asK{a b c d:b6}(aA:a∈dv)(hb:b∈dv)(hc:c∈dv)(hd:d∈dv):rk (eH fl iF 30 144 [tJ 12 [a,b],tJ 13 [c,d],zV] (gn [nB [a,b],nB [c,d]]))=some (vA a b c d):=by
 unfold vA;split
 ·rename_i e;subst e;exact apT aA hb hd
 ·rename_i e;exact apS aA hc e b d
theorem wU{a b:b6}(aA:a∈dv)(hb:b∈dv):(Aj a b<0↔oW a<oW b)/\(a=b↔oW a=oW b)/\0<=oW a/\oW a<8:=by
 rcases xF aA with rfl|rfl|rfl|rfl|rfl|rfl|rfl|rfl<;>rcases xF hb with rfl|rfl|rfl|rfl|rfl|rfl|rfl|rfl<;>decide
theorem ahq{a b c d:b6}(aA:a∈dv)(hb:b∈dv)(hc:c∈dv)(hd:d∈dv):vA a b c d<0↔8*oW a+oW b<8*oW c+oW d:=by
 have h1:=wU aA hc;have h2:=wU hb hd;have h3:=wU hd hb;unfold vA;split
 ·rename_i e;subst e;rw [h2.1];omega
 ·rename_i e;have:¬oW a=oW c:=fun q=>e (h1.2.1.2 q);rw [h1.1];omega
def F2:Option (Value×aL)->Option (Nat×Nat×Nat×Nat×Option cn)
 | some (.slice (some ⟨b,o,none⟩) n k,H)=>some (b,o,n,k,H.get b)
 | _=>none
theorem asL(a b:b6):F2 (eH fl iF 30 142 [tJ 12 [a,b]] (gn [nB [a,b]]))=some (14,0,2,dj,some (.cs true true 57 (iw [a,b]))):=by kernel_rfl
def hO(h:ab)(b k:Nat)(l:List b6)(o:Bool):Prop:=
 ∃arr rest,h b=some ⟨.cells arr 57 (0,0),o⟩/\arr.toList=iw l++rest/\∃bo,cy Tryz.prog 57=some bo/\arr.size=k*bo
theorem hO.le{h h':ab}{b k:Nat}{l:List b6}{o:Bool}(p:hO h b k l o)(le:h.aD h'):hO h' b k l o:=by
 obtain ⟨arr,rest,h1,h2⟩:=p;exact ⟨arr,rest,le _ _ h1,h2⟩
theorem Fl(ρ:bq):∀l:List b6,cV ρ (iw l) (iw l)
 | []=>.nil
 | x::l=>.cons (.int _ _) (.cons (.int _ _) (Fl ρ l))
theorem EC{ρ:bq}:∀{l:List b6} {c:List Value},cV ρ (iw l) c->c=iw l
 | [],_,.nil=>rfl
 | x::l,_,.cons (.int _ _) (.cons (.int _ _) q)=>by rw [EC q];rfl
theorem zn{ρ:bq}{h:ab}{b k:Nat}{l:List b6}{o:Bool}(p:hO h b k l o):Bk Tryz.prog ρ k (nB l) (h b):=by
 obtain ⟨arr,rest,h1,h2,bo,h3,h4⟩:=p;exact ⟨arr,o,iw l,rest,h1,(by intro q;cases q),h2,Fl ρ l,(by intro q;cases q),fun _=>⟨bo,h3,h4⟩⟩
section
variable{main:Bool}{ah:Type}{Sy:Sys ah}{s:ah}{h:ab}
theorem Is{b k:Nat}:∀(i j b9 k1 bX:Nat),[(b,k)][i]? =some (b9,k1)->[(b,k)][j]? =some (b9,bX)->i=j:=by
 intro i j b9 k1 bX h1 h2
 match i,j with
 | 0,0=>rfl
 | 0,j+1=>simp at h2
 | i+1,_=>simp at h1
theorem Z3{b k c m:Nat}(b7:b≠c):∀(i j b9 k1 bX:Nat),[(b,k),(c,m)][i]? =some (b9,k1)->[(b,k),(c,m)][j]? =some (b9,bX)->i=j:=by
 intro i j b9 k1 bX h1 h2
 match i,j with
 | 0,0=>rfl
 | 1,1=>rfl
 | 0,1=>simp at h1 h2;omega
 | 1,0=>simp at h1 h2;omega
 | 0,j+2=>simp at h2
 | 1,j+2=>simp at h2
 | i+2,_=>simp at h1
theorem aeM{p q k m:Nat}{o aO:Bool}{a b c d:b6}(aA:a∈dv)(hb:b∈dv)(hc:c∈dv)(hd:d∈dv)(b7:p≠q)(aK:hO h p k [a,b] o)(aE:hO h q m [c,d] aO):
  bP Tryz.prog 144=true/\bI Tryz.prog main Sy 144 ⟨[.slice (some ⟨p,0,none⟩) 2 k,.slice (some ⟨q,0,none⟩) 2 m,zV]⟩ s h fun ai h' v=>ai=s/\h.aD h'/\v=.int .i64 (vA a b c d):=by
 have e:=asK aA hb hc hd;unfold rk at e;split at e
 ·rename_i n H' aa;cases e;obtain ⟨ck,q⟩:=ve (main:=main) (Sy:=Sy) (s:=s) (bs:=[(p,k),(q,m)]) (h:=h) (args':=[.slice (some ⟨p,0,none⟩) 2 k,.slice (some ⟨q,0,none⟩) 2 m,zV]) aa rfl (Z3 b7) (fun i x b9 k' h1 h2=>by
    match i with
    | 0=>simp at h1 h2;obtain ⟨rfl,rfl⟩:=h2;subst h1;exact zn aK
    | 1=>simp at h1 h2;obtain ⟨rfl,rfl⟩:=h2;subst h1;exact zn aE
    | i+2=>simp at h1)
   (.cons (by have:=bw.sl (ρ:=ia [(p,k),(q,m)]) (c:=12) (b:=p) (k:=k) 0 2 dj rfl;rw [oJ] at this;exact this)
    (.cons (by have:=bw.sl (ρ:=ia [(p,k),(q,m)]) (c:=13) (b:=q) (k:=m) 0 2 dj rfl;rw [oJ] at this;exact this)
    (.cons (.func _ .nil .nil) .nil)))
  exact ⟨ck,q.mono fun ai h' v ⟨e1,e2,bA,e3,e4,e5⟩=>⟨e1,e2,by cases e4;rfl⟩⟩
 ·cases e
theorem akt{p k:Nat}{o:Bool}{a b:b6}(aK:hO h p k [a,b] o):
  bP Tryz.prog 142=true/\bI Tryz.prog main Sy 142 ⟨[.slice (some ⟨p,0,none⟩) 2 k]⟩ s h fun ai h' v=>ai=s/\h.aD h'/\∃dc k',v=.slice (some ⟨dc,0,none⟩) 2 k'/\hO h' dc k' [a,b] true/\h dc=none:=by
 have e:=asL a b;unfold F2 at e;split at e
 ·rename_i n o1 db k1 H' aa;simp only [Option.some.injEq,Prod.mk.injEq] at e;obtain ⟨rfl,rfl,rfl,rfl,aG⟩:=e;obtain ⟨ck,q⟩:=ve (main:=main) (Sy:=Sy) (s:=s) (bs:=[(p,k)]) (h:=h) (args':=[.slice (some ⟨p,0,none⟩) 2 k]) aa rfl Is (fun i x b9 k' h1 h2=>by
    match i with
    | 0=>simp at h1 h2;obtain ⟨rfl,rfl⟩:=h2;subst h1;exact zn aK
    | i+1=>simp at h1)
   (.cons (by have:=bw.sl (ρ:=ia [(p,k)]) (c:=12) (b:=p) (k:=k) 0 2 dj rfl;rw [oJ] at this;exact this) .nil)
  refine ⟨ck,q.mono fun ai h' v ⟨e1,e2,bA,e3,e4,e5⟩=>⟨e1,e2,?_⟩⟩;obtain ⟨dc,k',r1,arr,fr,b2,rest,an,az,aB,aX,cp,fw⟩:=e3.blk 14 _ aG;have Qh:=az rfl;subst Qh;have avo:=EC aX;subst avo;refine ⟨dc,k',?_,⟨arr,rest,an,aB,fw rfl⟩,?_⟩
  ·match v,e4 with
   | _,.sl (b:=cl) (k:=k1) _ _ _ e'=>
    rw [r1] at e';cases e';rw [oJ]
  ·rcases e5.lW 14 _ dc k' aG (by rw [xa];simp) rfl r1 with q|⟨dK,k0,⟨w1,y,w2,_⟩,_⟩
   ·exact q
   ·rw [Fj] at w1;rw [zm] at w2;split at w2
    ·cases w2
    ·have:=(List.getElem?_eq_some_iff.1 w2).1;simp at this;simp at w1;omega
 ·cases e
end
end
end Go.Nk
